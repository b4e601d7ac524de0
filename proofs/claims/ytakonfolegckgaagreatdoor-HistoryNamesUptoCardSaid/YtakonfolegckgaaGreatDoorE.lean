/- A part of the proof for HistoryNames: F38 to F66. Printed from longer texts. -/
import Derived.Test.YtakonfolegckgaaGreatDoorD
import Derived.Shelf.SlSortCmp.NoneTotal
set_option linter.all false
set_option maxHeartbeats 64000000
open And renaming intro→aLt
open Array renaming eq_empty_of_size_eq_zero→Xv,getElem?_append→Hi,getElem?_append_left→ow,getElem?_eq_getElem→bh,getElem?_eq_some_iff→iu,getElem?_extract→a2p,getElem?_modify→Di,getElem_toList→ab8,length_toList→qu,size_append→T4
open Bool renaming and_eq_true→da,and_false→qq,and_true→Hj,eq_iff_iff→Td,false_and→dz,false_eq_true→fw,not_eq_true'→qp,not_false→M7,not_true→aFr,or_eq_false_iff→S0,or_eq_true→Nr,true_and→u9
open Go.IntKind renaming i64→ab
open Go.Proofs renaming sortWorld→a2n
open Go.Proofs.SlLaysF renaming n6→a89
open Go.Shelf renaming Ren→Vp
open Go.Sort renaming grow→Vo,mapBlock→ab6,putCells→D1
open Go.World renaming cell?→aKw
open Int renaming add_zero→amz,le_of_lt→aIv,le_of_mul_le_mul_right→a8d,le_total→aJs,lt_or_gt_of_ne→amy,lt_or_le→Q1,lt_trichotomy→aFv,mul_comm→Ag,mul_eq_zero→Cj,mul_le_mul_of_nonneg_left→Zo,mul_neg→aLc,mul_neg_of_neg_of_pos→ab4,mul_nonneg→ae0,mul_nonneg_of_nonpos_of_nonpos→Dh,mul_nonpos_of_nonneg_of_nonpos→J9,mul_pos→Jc,mul_pos_of_neg_of_neg→ab3,mul_zero→aKd,natCast_add→lz,natCast_nonneg→ao,neg_mul→aLb,nonneg_of_mul_nonneg_left→azh,nonneg_of_mul_nonneg_right→avn,reduceLE→ew,reduceLT→de,reduceNeg→cq,reduceToNat→ed,zero_mul→amx
open List renaming all_cons→W4,all_eq_false→a3p,all_eq_true→dj,all_nil→aJr,any_eq_true→Av,append_assoc→po,append_nil→sr,drop→aLq,drop_eq_getElem_cons→jj,drop_eq_nil_of_le→Nw,drop_length→Pc,drop_zero→adz,eq_nil_of_length_eq_zero→j1,eraseIdx_eq_take_drop_succ→ru,exists_cons_of_ne_nil→aD1,ext_getElem→amu,ext_getElem?→ady,filterMap_some→aK0,filter_append→Xt,filter_cons→ab1,flatMap_cons→avg,flatten_cons→avf,flatten_nil→aIu,foldl_append→pn,foldl_cons→Aq,foldl_nil→aIt,getD→cw,getD_cons_zero→aAa,getD_eq_getElem?_getD→Au,getElem?_append_left→mj,getElem?_append_right→ly,getElem?_cons_zero→dv,getElem?_drop→og,getElem?_eq_getElem→ax,getElem?_eq_some_iff→aw,getElem?_map→cy,getElem?_set→so,getElem_append_left→aFu,getElem_map→ams,getElem_mem→df,getElem_take→adx,length→Gz,length_append→db,length_cons→cj,length_drop→yu,length_eraseIdx_of_lt→aD0,length_filter_le→Dg,length_map→ag,length_nil→du,length_pos_iff→a2j,length_set→Ie,length_take→er,map→aLy,map_append→fl,map_congr_left→Dd,map_cons→dr,map_drop→aA9,map_eq_nil_iff→fa,map_id→aL7,map_map→a4f,map_nil→gn,map_set→aL2,map_take→Lr,mem_append→lx,mem_append_right→Vn,mem_cons→fb,mem_cons_of_mem→aaz,mem_filter→F5,mem_flatMap→Pb,mem_iff_getElem→gf,mem_map→gr,mem_of_getElem?→jw,mem_of_mem_drop→aJo,mem_of_mem_take→Xr,mem_or_eq_of_mem_set→aFn,mem_range→ez,mem_singleton→Tc,nil_append→Ap,nodup_append→T3,nodup_cons→aFm,nodup_iff_pairwise_ne→As,not_mem_nil→l8,pairwise_iff_getElem→yp,pairwise_map→aFs,range→dt,reduceReplicate→di,replicate→jb,reverse_cons→tu,reverse_reverse→pz,set_append_right→a86,sum_append→aJm,sum_cons→aKr,take→aLs,take_add_one→gl,take_left'→aJl,take_length→eh,take_of_length_le→vl,take_zero→M5
open List.cons renaming injEq→ab2
open Nat renaming add_assoc→rv,add_left_cancel_iff→fu,add_zero→Af,le_of_lt→aKq,le_refl→ay,le_trans→ij,lt_or_ge→a4e,lt_succ_iff_lt_or_eq→Wn,min_eq_left→aax,mod_eq_of_lt→aaw,mod_lt→a8a,not_lt_zero→aFl,reduceAdd→ae,reduceEqDiff→aa,reduceLeDiff→ah,reduceMul→ey,reducePow→Pz,sub_self→Vm,sub_zero→Vk,zero_add→gd,zero_le→aCz
open Option renaming getD_some→jc,isSome→ca,map_eq_some_iff→aq,map_some→ir
open Option.some renaming inj→avj,injEq→ak
open Prod renaming ext→R1
namespace Go.PI
open Go Go.RowKit
theorem Bel.grown{w w':World}(h:Bel True w.heap.size w w'):∃q os,w'=Vo (w.drewN q) os:=by
 refine⟨w'.drawn-w.drawn,w'.heap.extract w.heap.size w'.heap.size,?_⟩;have hd:=h.drawn trivial;have hs:=h.size
 have hh:w'.heap=w.heap++w'.heap.extract w.heap.size w'.heap.size:=by
  apply Array.ext_getElem?;intro k;rw[Hi];split
  ·rename_i hk;exact h.block k hk
  rename_i hk;rw[a2p];by_cases hk2:k<w'.heap.size
  ·rw[bd (by omega)]
   congr 1
   omega
  rw[al (by omega),Array.getElem?_eq_none (by omega)]
 unfold Vo World.drewN
 have e2:w.drawn+(w'.drawn-w.drawn)=w'.drawn:=by omega
 cases w'
 simp only[World.mk.injEq]at*
 exact⟨hh,h.tape,e2.symm,h.os,h.output⟩
def El(G:gq):Type:={p:List Sp×Value//i6 G (xf p.1) p.2∧p.1.length≤2^20}
instance(G:gq):Inhabited (El G):=⟨⟨([],.slice none 0 0),.Vq,by simp⟩⟩
def El.enc{G:gq}(x:El G):Value:=x.1.2
def El.cf{G:gq}(x y:El G):Int:=Mq x.1.1 y.1.1
theorem El.one(G:gq):Go.Proofs.OneCell (El.enc (G:=G)):=fun x=>i6.afi x.2.1 rfl
theorem El.swo(G:gq):Go.Sort.SWO (Go.Proofs.ltOf (El.cf (G:=G)))where
 irrefl x:=by
  have:=(Et.zero x.1.1 x.1.1).2 rfl;simp[Go.Proofs.ltOf,El.cf,this]
 trans x y z h1 h2:=decide_eq_true (Et.trans x.1.1 y.1.1 z.1.1 (of_decide_eq_true h1) (of_decide_eq_true h2))
 ntrans x y z h1 h2:=decide_eq_false (ah8 (of_decide_eq_false h2) (of_decide_eq_false h1))
section
variable{P:Program}(A:Pr3 P)
theorem a9u(a b:List Sp)(ha:a.length≤2^50)(hb:b.length≤2^50):iz P A.mz [xf a,xf b] (.int ab (Mq a b)):=by
 refine ec A.mo A.Xc (by simp) ?_;show kq P (Ij A.j8 A.ub) (mb _ _) _;have h:=Wa A a b ha hb;simp only[xf]at h;simp only[Ij,xf,go_sem,aa,reduceCtorEq];refine Gx h ?_;simp only[go_sem,aa]
end
section
variable{P:Program}{G:gq}{w:World}{dc:Nat}{cells:Array Value}{et:TypeId}
theorem al9(hh:w.heap[dc]? =some (.cells cells et (0,0))){m:Nat}{dk:Array (El G)}{os:Array Obj}:
  (a2n El.enc w dc 0 m dk os).heap=w.heap.modify dc (Go.Sort.onCells (D1 El.enc 0 dk))++os∧
  (∀k,k<w.heap.size→k≠dc→(a2n El.enc w dc 0 m dk os).heap[k]? =w.heap[k]?)∧
  (a2n El.enc w dc 0 m dk os).heap[dc]? =some (.cells (D1 El.enc 0 dk cells) et (0,0)):=by
 have hb:dc<w.heap.size:=(iu.1 hh).1;have e:(a2n El.enc w dc 0 m dk os).heap=w.heap.modify dc (Go.Sort.onCells (D1 El.enc 0 dk))++os:=rfl;refine⟨e,fun k hk hne=>?_,?_⟩
 ·rw[e,ow (by simpa using hk),Di,al (fun q=>hne q.symm)]
 rw[e,ow (by simpa using hb),Di,bd rfl,hh];rfl
theorem aqn(hG:GOk G w)(hh:w.heap[dc]? =some (.cells cells et (0,0)))(Bs:∀o,G.cv dc o=none){m:Nat}{dk:Array (El G)}{os:Array Obj}:GOk G (a2n El.enc w dc 0 m dk os)where
 cv b o v hv:=by
  have hlt:=hG.lt hv
  have hne:b≠dc:=fun q=>by rw[q,Bs]at hv;cases hv
  have:=hG.cv b o v hv;unfold aKw at this⊢;rw[(al9 hh).2.1 b hlt hne];exact this
 mv b es hv:=by
  obtain⟨ents,clock,h1,h2⟩:=hG.mv b es hv;have hlt:=hG.ltm hv
  have hne:b≠dc:=fun q=>by rw[q,hh]at h1;cases h1
  exact⟨ents,clock,by rw[(al9 hh).2.1 b hlt hne];exact h1,h2⟩
end
end Go.PI
namespace Go.PI
open Go Go.RowKit Go.Proofs
section
variable{P:Program}(A:Pr3 P){ρ:Vp}
theorem Uy{f:Nat}{B:Func}(h:Bears P f B)(hb:B.body.isSome=true):zf P f=true:=by
 obtain⟨nm,h1,h2⟩:=h;unfold zf;rw[h2];simp only[da,bne,h1,M7,true_and];exact hb
def V3(m:Mem)(id:Nat)(ls:List (List Sp)):Mem:=⟨l7 m.dc id (some (.arr 1 ((xh ls).map fun l=>[xf l]))),m.av,m.mp⟩
theorem aib(L:a89 P ρ)(hρ:ρ.f 6=A.ee)(ls:List (List Sp))(hlen:ls.length≤2^20)(hls:∀l∈ls,l.length≤2^20){m:Mem}{id av:Nat}(hb:m.dc id=some (.arr 1 (ls.map fun l=>[xf l])))(hv:m.av id=av):
  qm P A.ee m [.ref id av ls.length,.d (.oq A.mz [])] (V3 m id ls) (.d (.Ar [])):=by
 refine⟨by rw[←hρ];exact Uy L.f6 rfl,fun s B0 w0 nt G0 G E a w vs hs hF hl hrel=>?_⟩;subst hs;have rp:s.dc id=some (.arr 1 (ls.map fun l=>[xf l])):=hb;have C9:vs.size=2:=hl;have h0:=hrel 0 _ vs[0] rfl (bh (by omega));have h1:=hrel 1 _ vs[1] rfl (bh (by omega));obtain⟨_,k2⟩:=h0.2 hv _ _ (xj rp);obtain⟨cap,c1,c2,e0⟩:=k2 (by simp)
 have e1:vs[1]= .func (.func A.mz) #[] #[]:=by
  generalize vs[1]=v1 at h1
  cases h1 with
  |oq hz _=>rw[Xv hz]
 have ev:vs= #[.slice (some ⟨E.b id,0,none⟩) ls.length cap,.func (.func A.mz) #[] #[]]:=by
  apply Array.ext (by simpa using C9);intro i h1 h2
  match i,h1 with
  |0,_=>exact e0
  |1,_=>exact e1
  |i+2,h1=>omega
 subst ev;obtain⟨cells,et,hh,hn,hc,hw⟩:=hF.yl rp;obtain⟨hB,Bs,_⟩:=hF.dc id _ rp
 have Iu:ls.length≤cells.size:=by have:=hc.1;simpa using this
 have azs:∀i (hi:i<ls.length),i6 G (xf ls[i]) (cells[i]'(by omega)):=fun i hi=>hc.2.2 i [xf ls[i]] 0 _ _ (by simp[hi]) rfl (by simp)
 let f:Fin ls.length→El G:=fun i=>⟨(ls[i],cells[i]'(by omega)),azs i i.2,hls _ (df _)⟩
 obtain⟨d,hd⟩:∃d:Array (El G),d=Array.ofFn f:=⟨_,rfl⟩
 have dsz:d.size=ls.length:=by rw[hd];exact Array.size_ofFn
 have dat:∀j (hj:j<ls.length),d[j]! =⟨(ls[j],cells[j]'(by omega)),azs j hj,hls _ (df _)⟩:=by
  intro j hj;rw[getElem!_pos d j (by omega)];subst hd;exact Array.getElem_ofFn _
 have hblk:E.b id<w.heap.size:=(iu.1 hh).1
 have hH:Go.Sort.Holds El.enc w (E.b id) 0 d:=by
  intro j hj;rw[dsz]at hj;rw[dat j hj,gd,hw,bh (by omega)];refine⟨rfl,?_⟩;unfold World.frozen?;rw[hh];simp
 have aga:CmpLays1 P A.mz #[] (El.enc (G:=G)) El.cf (E.b id) 0 d.size w:=by
  intro mm os dk hs x y
  have hp:=(a9u A x.1.1 y.1.1 (ij x.2.2 (by omega)) (ij y.2.2 (by omega))).2 G (sortWorld El.enc w (E.b id) 0 mm dk os) #[El.enc x,El.enc y] (aqn hF.gok hh Bs) rfl (by
   intro i z v hz hv
   match i,hz,hv with
   |0,hz,hv=>simp at hz hv;subst hz hv;exact x.2.1
   |1,hz,hv=>simp at hz hv;subst hz hv;exact y.2.1
   |i+2,hz,hv=>simp at hz)
  refine hp.mono ?_;rintro e w' ⟨v,G',rfl,_,_,_,ajt,hd⟩;cases hd;exact⟨rfl,ajt.grown⟩
 have K3:=Any.slices_SortFunc L El.enc (El.one G) El.cf (El.swo G) A.mz #[] (E.b id) 0 cap d w (fun args w=>Kg (a9u A [] [] (by simp) (by simp)).1 args) aga hH hblk (by omega);rw[hρ,dsz]at K3;refine K3.mono ?_;rintro e w' ⟨rfl,d',n',os,⟨p1,p2,p3⟩,q,rfl⟩;refine⟨_,G,E,rfl,?_,i6.Ar rfl (by simp)⟩;have aF4:d'.size=ls.length:=p1.trans dsz
 have aE1:d'.toList.Perm d.toList:=by
  have e1:d'.extract 0 ls.length=d':=by rw[←aF4];simp
  have e2:d.extract 0 ls.length=d:=by rw[←dsz];simp
  rwa[e1,e2]at p3
 have ati:d.toList.map (fun x:El G=>x.1.1)=ls:=by
  apply amu
  ·simp[dsz]
  intro i h1 h2;have:=dat i h2;rw[getElem!_pos d i (by omega)]at this;simp only[ams,ab8,this]
 have aGz:d'.toList.map (fun x:El G=>x.1.1)=xh ls:=by
  refine abu ?_ ?_ (abb ls)
  ·have:=aE1.map fun x:El G=>x.1.1;rw[ati]at this;exact this.trans (Bb ls).symm
  unfold amj;rw[aFs,yp];intro i j h1 h2 J3;have:=q i j (aCz _) J3 (by rw[qu]at h2;omega);rw[getElem!_pos d' i (by simpa using h1),getElem!_pos d' j (by simpa using h2)]at this;have h3:=of_decide_eq_false this;simp only[ab8];exact h3
 have ag5:(xh ls).length=ls.length:=(Bb ls).length_eq
 have acn:∀i (hi:i<ls.length),(xh ls)[i]'(by omega)=(d'[i]!).1.1:=by
  intro i hi;rw[getElem!_pos d' i (by omega)];simp only[←aGz,ams,ab8]
 have hpc:∀k (hk:k<ls.length),(D1 El.enc 0 d' cells)[k]? =some (El.enc d'[k]!):=by
  intro k hk;unfold D1;rw[Array.getElem?_mapIdx,bh (by omega)];simp only[ir,aCz,gd,true_and,Vk,aF4,hk,cz]
 have aDz:(D1 El.enc 0 d' cells).size=cells.size:=by unfold D1;exact Array.size_mapIdx
 have hT:Ao w (ab6 w (E.b id) (D1 El.enc 0 d')) (E.b id) (.cells (D1 El.enc 0 d' cells) et (0,0)):=by
  refine⟨rfl,rfl,rfl,rfl,by simp[ab6],fun k hk=>?_,?_⟩
  ·unfold ab6;rw[Di,al fun q=>hk q.symm]
  unfold ab6;rw[Di,bd rfl,hh];rfl
 have hHo:Go.PI.Holds G E s (D1 El.enc 0 d' cells) (.arr 1 ((xh ls).map fun l=>[xf l])):=by
  refine⟨by rw[aDz];simpa[ag5]using Iu,fun i e he=>?_,fun i e j x u he hx hu=>?_⟩
  ·simp only[cy,aq]at he;obtain⟨l,_,rfl⟩:=he;rfl
  simp only[cy,aq]at he;obtain⟨l,hl1,rfl⟩:=he;obtain⟨hi,rfl⟩:=aw.1 hl1
  have D0:i<ls.length:=by omega
  cases j with
  |succ j=>simp at hx
  |zero=>
   simp only[dv,ak]at hx;subst hx;rw[Nat.mul_one,Af,hpc i D0]at hu
   injection hu with hu
   subst hu;rw[acn i D0];exact(d'[i]!).2.1
 have hf:=hF.set rp (Alike.arr (by simp[ag5])) hT (by rw[aDz];exact hn) hHo;have hwe:sortWorld El.enc w (E.b id) 0 n' d' os=Vo ((ab6 w (E.b id) (D1 El.enc 0 d')).drewN n') os:=rfl;have hgk:=aqn hF.gok hh Bs (m:=n') (dk:=d') (os:=os);rw[hwe]at hgk⊢;refine hf.a7q (w':=Vo ((ab6 w (E.b id) (D1 El.enc 0 d')).drewN n') os) ⟨⟨rfl,rfl,rfl,?_,fun k hk=>?_⟩,fun _=>Nat.le_add_right _ _⟩ (gq.la _) hgk (fun _ _ _=>rfl) (fun _ _=>rfl)
 ·show _≤(_++os).size;rw[T4];exact Nat.le_add_right _ _
 exact ow hk
theorem anr(L:a89 P ρ)(hρ:ρ.f 6=A.ee)(m:Mem):qm P A.ee m [.d .ck,.d (.oq A.mz [])] m (.d (.Ar [])):=by
 refine⟨by rw[←hρ];exact Uy L.f6 rfl,fun s B0 w0 nt G0 G E a w vs hs hF hl hrel=>?_⟩;have C9:vs.size=2:=hl;have h0:=hrel 0 _ vs[0] rfl (bh (by omega))
 have e0:vs[0]= .slice none 0 0:=by
  generalize vs[0]=v0 at h0;cases h0;rfl
 have ev:vs= #[.slice none 0 0,vs[1]]:=by
  apply Array.ext (by simpa using C9);intro i h1 h2
  match i,h1 with
  |0,_=>exact e0
  |1,_=>rfl
  |i+2,h1=>omega
 rw[ev];have K3:=AnyF.slices_SortFunc_none (P:=P) (ρ:=ρ) {L with} none 0 vs[1] w;rw[hρ]at K3;refine K3.mono ?_;rintro e w' ⟨rfl,rfl⟩;refine⟨_,G,E,rfl,?_,i6.Ar rfl (by simp)⟩;subst hs;exact hF
theorem aek(L:a89 P ρ)(hρ:ρ.f 6=A.ee)(ls:List (List Sp))(hlen:ls.length≤2^20)(hls:∀l∈ls,l.length≤2^20){m:Mem}{id av:Nat}(hb:m.dc id=some (.arr 1 (ls.map fun l=>[xf l])))(hv:m.av id=av)(b:Nat):
  qm P A.mh m [.ref id av ls.length] (V3 m id ls) (.ref id av ls.length):=by
 have hs:=aib A L hρ ls hlen hls hb hv;have ag5:(xh ls).length=ls.length:=(Bb ls).length_eq;refine lu A.mo A.Rl (by simp) b (fun c=>?_) (fun i=>ay _) (fun i b' rp=>?_) (fun i es hi=> .inl hi) (by simp[Hh,V3,hv])
 ·show kq P (Dq A.ee A.mz) (xv m [.tmp 2] _ _) _;simp only[Dq,enter,go_sem,aa,reduceCtorEq];refine lr hs ?_;simp only[go_sem,aa,reduceCtorEq,PS.j6,pa,sq];exact fun i=>⟨.inr ⟨rfl,rfl⟩,.inr ⟨rfl,rfl⟩⟩
 simp only[V3,aj]at rp;split at rp
 ·injection rp with rp;subst rp;exact .inr trivial
 exact .inl rp
theorem a1h(L:a89 P ρ)(hρ:ρ.f 6=A.ee)(m:Mem)(b:Nat):qm P A.mh m [.d .ck] m (.d .ck):=by
 have hs:=anr A L hρ m;refine lu A.mo A.Rl (by simp) b (fun c=>?_) (fun i=>ay _) (fun i b' rp=> .inl rp) (fun i es hi=> .inl hi) trivial;show kq P (Dq A.ee A.mz) (xv m [.tmp 2] _ _) _;simp only[Dq,enter,go_sem,aa,reduceCtorEq];refine lr hs ?_;simp only[go_sem,aa,reduceCtorEq,PS.j6,pa,sq];exact fun i=>⟨.inr ⟨rfl,rfl⟩,.inr ⟨rfl,rfl⟩⟩
end
end Go.PI
namespace Go.PI
theorem a5r{α:Type}{a b:List α}(hl:a.length=b.length)(h:∀i (h1:i<a.length) (h2:i<b.length),a[i]=b[i]):a=b:=amu hl h
theorem aqt{a b:Sp}:(a.1==b.1&&a.2==b.2)=decide (a=b):=by
 rw[Td];simp only[da,beq_iff_eq,decide_eq_true_eq];exact⟨fun h=>R1 h.1 h.2,fun h=>by subst h;exact⟨rfl,rfl⟩⟩
section
variable{P:Program}(A:Pr3 P)
theorem awl(a b:List Sp)(ha:a.length≤2^50)(hb:b.length≤2^50):iz P A.j0 [xf a,xf b] (.bool (decide (a=b))):=by
 refine ec A.mo A.O5 (by simp) ?_;show kq P xr (mb _ _) _;by_cases hl:a.length=b.length
 ·have hlb:((a.length:Int) !=b.length)=false:=by simp[hl]
  simp only[xr,xf,go_sem,aa,reduceCtorEq,ag,hlb];refine we (fun s'=>a=b) ?_ ?_
  ·refine fp a.length (fun i s'=>s'.tmp 0= .d (.gz 2 (a.map C5))∧s'.tmp 1= .d (.gz 2 (b.map C5))∧s'.tmp 12= .d (.int ab a.length)∧s'.tmp 13= .d (.int ab i)∧∀k (h1:k<a.length) (h2:k<b.length),k<i→a[k]=b[k]) ?_ ?_
   ·simp only[go_sem,aa,reduceCtorEq];exact fun k _ _ h=>absurd h (aFl _)
   rintro i s' hi ⟨f0,f1,f12,f13,hI⟩;by_cases hlt:(i:Int)<a.length
   ·have dq:i<a.length:=by omega
    have ajq:i<b.length:=by omega
    have wi:=dh ((i:Int)+1) (by omega) (by omega);have g1:=Dl dq;have g2:=Dl ajq
    have e1:a.getD i (0,0)=a[i]:=by simp[cw,dq]
    have e2:b.getD i (0,0)=b[i]:=by simp[cw,ajq]
    rw[e1]at g1;rw[e2]at g2;have he:(a[i].1==b[i].1&&a[i].2==b[i].2)=decide (a[i]=b[i]):=aqt;by_cases hq:a[i]=b[i]
    ·rw[decide_eq_true hq]at he;simp only[go_sem,aa,ae,reduceCtorEq,f0,f1,f12,f13,hlt,g1,g2,bp,ao,wi,dq,he];refine⟨by simp,fun k h1 h2 hk=>?_⟩;rcases Wn.1 hk with hk|rfl
     ·exact hI k h1 h2 hk
     exact hq
    have hne:decide (a=b)=false:=decide_eq_false fun h=>hq (by subst h;rfl);rw[decide_eq_false hq]at he;simp only[go_sem,aa,ae,reduceCtorEq,f0,f1,f12,f13,hlt,g1,g2,bp,ao,he,hne]
   have:i=a.length:=by omega
   subst this;simp only[go_sem,reduceCtorEq,f12,f13,hlt];exact a5r hl fun k h1 h2=>hI k h1 h2 h1
  rintro s' he;have:decide (a=b)=true:=decide_eq_true he;simp only[go_sem,this]
 have hlb:((a.length:Int) !=b.length)=true:=by simp;omega
 have hne:decide (a=b)=false:=decide_eq_false fun h=>hl (by rw[h]);simp only[xr,xf,go_sem,aa,reduceCtorEq,ag,hlb,hne]
theorem aev(a b:List (List Sp))(ha:a.length≤2^50)(hb:b.length≤2^50)(hal:∀l∈a,l.length≤2^50)(hbl:∀l∈b,l.length≤2^50):iz P A.gu [ku a,ku b,.oq A.j0 []] (.bool (decide (a=b))):=by
 refine ec A.mo A.Az (by simp) ?_;show kq P mf (mb _ _) _;by_cases hl:a.length=b.length
 ·have hlb:((a.length:Int) !=b.length)=false:=by simp[hl]
  simp only[mf,ku,go_sem,aa,reduceCtorEq,ag,hlb];refine we (fun s'=>a=b) ?_ ?_
  ·refine fp a.length (fun i s'=>s'.tmp 15= .d (.gz 1 (a.map fun l=>[xf l]))∧s'.tmp 1= .d (.gz 1 (b.map fun l=>[xf l]))∧s'.tmp 2= .d (.oq A.j0 [])∧s'.tmp 16= .d (.int ab a.length)∧s'.tmp 17= .d (.int ab i)∧∀k (h1:k<a.length) (h2:k<b.length),k<i→a[k]=b[k]) ?_ ?_
   ·simp only[go_sem,aa];exact fun k _ _ h=>absurd h (aFl _)
   rintro i s' hi ⟨f0,f1,f2,f12,f13,hI⟩;by_cases hlt:(i:Int)<a.length
   ·have dq:i<a.length:=by omega
    have ajq:i<b.length:=by omega
    have wi:=dh ((i:Int)+1) (by omega) (by omega);have g1:=Fu dq;have g2:=Fu ajq;have hE:=awl A a[i] b[i] (hal _ (df _)) (hbl _ (df _));simp only[xf]at hE;simp only[go_sem,aa,reduceCtorEq,f0,f1,f2,f12,f13,hlt,g1,g2,bp,ao];refine P3 hE ?_;by_cases hq:a[i]=b[i]
    ·have he:decide (a[i]=b[i])=true:=decide_eq_true hq;simp only[go_sem,aa,reduceCtorEq,f0,f1,f2,f12,f13,he,wi,dq];refine⟨by simp,fun k h1 h2 hk=>?_⟩;rcases Wn.1 hk with hk|rfl
     ·exact hI k h1 h2 hk
     exact hq
    have he:decide (a[i]=b[i])=false:=decide_eq_false hq;have hne:decide (a=b)=false:=decide_eq_false fun h=>hq (by subst h;rfl);simp only[go_sem,aa,he,hne]
   have:i=a.length:=by omega
   subst this;simp only[go_sem,reduceCtorEq,f12,f13,hlt];exact a5r hl fun k h1 h2=>hI k h1 h2 h1
  rintro s' he;have:decide (a=b)=true:=decide_eq_true he;simp only[go_sem,this]
 have hlb:((a.length:Int) !=b.length)=true:=by simp;omega
 have hne:decide (a=b)=false:=decide_eq_false fun h=>hl (by rw[h]);simp only[mf,ku,go_sem,aa,reduceCtorEq,ag,hlb,hne]
theorem aie:iz P A.gu [.ck,.ck,.oq A.j0 []] (.bool true):=by
 refine ec A.mo A.Az (by simp) ?_;show kq P mf (mb _ _) _;simp only[mf,go_sem,aa,reduceCtorEq,bne_self_eq_false];refine we (fun s'=>True) ?_ ?_
 ·refine fp 0 (fun i s'=>s'.tmp 16= .d (.int ab 0)∧s'.tmp 17= .d (.int ab 0)) ?_ ?_
  ·simp only[go_sem,aa]
  rintro i s' hi ⟨f12,f13⟩;simp only[go_sem,reduceCtorEq,f12,f13]
 rintro s' _;simp only[go_sem]
end
theorem zb{a b:Sp}:ux a b=true↔a=b:=by
 unfold ux;rw[aqt,decide_eq_true_eq]
theorem al4(b k v:Sp):∀L:Adj,Cd b (u0 k v L)=if ux b k then some ((Cd b L).getD []++[v])else Cd b L:=by
 intro L
 induction L with
 |nil=>
  simp only[u0,Cd];split<;>simp
 |cons x r ih=>
  obtain⟨a,l⟩:=x;simp only[u0];by_cases h:ux k a=true
  ·rw[bd h];have:=zb.1 h;subst this;simp only[Cd];split
   ·simp
   rfl
  rw[al h];simp only[Cd];by_cases h2:ux b a=true
  ·have:=zb.1 h2;subst this
   have h3:¬(ux b k=true):=fun q=>h (by have:=zb.1 q;subst this;exact zb.2 rfl)
   rw[al h3,bd h2,bd h2]
  rw[al h2,ih,al h2]
def outs(es:List Ed)(b:Sp):List Sp:=(es.filter fun e=>ux b e.1).map (·.2)
def ins(es:List Ed)(b:Sp):List Sp:=(es.filter fun e=>ux b e.2).map (·.1)
theorem am8(f:Ed→Sp×Sp)(b:Sp)(es:List Ed):Cd b (es.foldl (fun L e=>u0 (f e).1 (f e).2 L) [])=if(es.filter fun e=>ux b (f e).1)=[]then none else some ((es.filter fun e=>ux b (f e).1).map fun e=>(f e).2):=by
 have:∀r:List Ed,Cd b ((r.reverse).foldl (fun L e=>u0 (f e).1 (f e).2 L) [])=if(r.reverse.filter fun e=>ux b (f e).1)=[]then none else some ((r.reverse.filter fun e=>ux b (f e).1).map fun e=>(f e).2):=by
  intro r
  induction r with
  |nil=>rfl
  |cons e r ih=>
   rw[tu,pn,Xt];simp only[Aq,aIt,al4,ih,ab1,List.filter_nil];by_cases h:ux b (f e).1=true
   ·simp only[h,cz,List.append_eq_nil_iff,List.cons_ne_self,and_false,bn,fl,dr,gn];split
    ·rename_i h0;rw[h0];rfl
    rfl
   simp only[h,bn,sr,fw]
 have h:=this es.reverse
 rwa[pz]at h
theorem ayj(b:Sp)(es:List Ed)(h:∃e∈es,e.1=b):Cd b (Bd es)=some (outs es b):=by
 have:=am8 (fun e=>(e.1,e.2)) b es;unfold Bd outs;rw[this,al];obtain⟨e,he,rfl⟩:=h;intro h0;have:e∈es.filter fun e'=>ux e.1 e'.1:=F5.2 ⟨he,zb.2 rfl⟩;rw[h0]at this;simp at this
theorem atv(b:Sp)(es:List Ed)(h:∃e∈es,e.2=b):Cd b (Ht es)=some (ins es b)∧ins es b≠[]:=by
 have:=am8 (fun e=>(e.2,e.1)) b es;obtain⟨e,he,rfl⟩:=h;have hm:e∈es.filter fun e'=>ux e.2 e'.2:=F5.2 ⟨he,zb.2 rfl⟩
 have hne:(es.filter fun e'=>ux e.2 e'.2)≠[]:=fun h0=>by rw[h0]at hm;simp at hm
 unfold Ht ins;rw[this,al hne];exact⟨rfl,by simpa using hne⟩
theorem Rh{es:List Ed}{b x:Sp}:x∈outs es b↔(b,x)∈es:=by
 unfold outs;rw[gr];constructor
 ·rintro⟨e,he,rfl⟩;obtain⟨h1,h2⟩:=F5.1 he;have:=zb.1 h2;subst this;exact h1
 intro h;exact⟨(b,x),F5.2 ⟨h,zb.2 rfl⟩,rfl⟩
theorem ac8(b fr:Sp):∀(r:List Sp) (h:Sp),r.foldl (wh b fr) h∈h::r:=by
 intro r
 induction r with
 |nil=>intro h;simp
 |cons x t ih=>
  intro h;rw[Aq];have:=ih (wh b fr h x)
  have hn:wh b fr h x=h∨wh b fr h x=x:=by unfold wh;split<;>simp
  rcases hn with hn|hn<;>rw[hn]at this⊢
  ·rcases fb.1 this with h1|h1
   ·rw[h1];simp
   simp[h1]
  exact aaz _ this
theorem aj3(h:Sp)(r:List Sp)(a b:Sp):a5j (h::r) a b∈h::r:=ac8 b (lp a b) r h
def Km(es:List Ed):Prop:=(∀e∈es,∃f∈es,f.1=e.2)∧∀e∈es,∃f∈es,f.2=e.1
def a3l(es:List Ed)(e:Ed):Ed:=(e.2,a5j (outs es e.2) e.1 e.2)
theorem age{es:List Ed}(hc:Km es){e:Ed}(he:e∈es):a3l es e∈es:=by
 obtain⟨f,hf,h1⟩:=hc.1 e he;unfold a3l;have hm:f.2∈outs es e.2:=Rh.2 (by rw[←h1];exact hf)
 cases ho:outs es e.2 with
 |nil=>rw[ho]at hm;simp at hm
 |cons h r=>exact Rh.1 (by rw[ho];exact aj3 h r e.1 e.2)
def Ah(es:List Ed):Nat→List Ed→Ed→List Sp×List Ed
 |0,u,_=>([],u)
 |n+1,u,e=>if Ni u e then([],u)else((e.1::(Ah es n (u++[e]) (a3l es e)).1),(Ah es n (u++[e]) (a3l es e)).2)
theorem Mi{u:List Ed}{e:Ed}:Ni u e=true↔e∈u:=by
 unfold Ni;rw[Av];constructor
 ·rintro⟨f,hf,h⟩
  have:e=f:=by
   unfold a3m at h;simp only[da,beq_iff_eq]at h;exact R1 (R1 h.1 h.2.1) (R1 h.2.2.1 h.2.2.2)
  subst this;exact hf
 intro h;exact⟨e,h,by simp[a3m]⟩
theorem aop{α:Type}[DecidableEq α]:∀{u es:List α},u.Nodup→(∀x∈u,x∈es)→u.length≤es.length:=by
 intro u
 induction u with
 |nil=>intro es _ _;simp
 |cons x r ih=>
  intro es hn hs;rw[aFm]at hn;have h1:=ih (es:=es.erase x) hn.2 fun y hy=>(List.mem_erase_of_ne (fun h=>by subst h;exact hn.1 hy)).2 (hs y (by simp[hy]));have h2:=List.length_erase_of_mem (hs x (by simp));have h3:=List.length_pos_of_mem (hs x (by simp));simp only[cj];omega
def zr(es:List Ed)(x:List Ed×List (List Sp))(s:Ed):List Ed×List (List Sp):=
 if Ni x.1 s then x else((Ah es (es.length+1) x.1 s).2,x.2++[Ki (Bd es) (Ht es) (Ah es (es.length+1) x.1 s).1])
def xw(es:List Ed)(k:Nat):List Ed×List (List Sp):=(es.take k).foldl (zr es) ([],[])
theorem a2a{es:List Ed}{k:Nat}(h:k<es.length):xw es (k+1)=zr es (xw es k) (es.getD k e0):=by
 unfold xw;rw[gl,pn];simp[h,cw]
end Go.PI
namespace Go.PI
open Go Go.Proofs
theorem Xx{es:List Ed}(hc:Km es):∀(n:Nat) (u:List Ed) (e:Ed),u.Nodup→(∀x∈u,x∈es)→e∈es→
  (Ah es n u e).2.Nodup∧(∀x∈(Ah es n u e).2,x∈es)∧(Ah es n u e).1.length≤n∧∀p∈(Ah es n u e).1,∃f∈es,f.1=p:=by
 intro n
 induction n with
 |zero=>intro u e h1 h2 _;exact⟨h1,h2,by simp[Ah],by simp[Ah]⟩
 |succ n ih=>
  intro u e h1 h2 he;unfold Ah;split
  ·exact⟨h1,h2,by simp,by simp⟩
  rename_i hm;have hn:e∉u:=fun h=>hm (Mi.2 h)
  obtain⟨k1,k2,k3,k4⟩:=ih (u++[e]) (a3l es e) (by
   rw[T3]
   exact⟨h1,by simp,fun x hx y hy=>by simp at hy;subst hy;exact fun q=>hn (q▸hx)⟩) (fun x hx=>by
   rcases lx.1 hx with hx|hx
   ·exact h2 x hx
   simp at hx;subst hx;exact he) (age hc he)
  refine⟨k1,k2,by simp only[cj];omega,fun p hp=>?_⟩;rcases fb.1 hp with rfl|hp
  ·exact⟨e,he,rfl⟩
  exact k4 p hp
theorem an4{es:List Ed}{n:Nat}{u:List Ed}{e:Ed}(h:Ni u e=false):(Ah es (n+1) u e).1≠[]:=by
 unfold Ah;rw[h];simp
theorem Sv{es:List Ed}(hc:Km es):∀k,k≤es.length→(xw es k).1.Nodup∧(∀x∈(xw es k).1,x∈es)∧(xw es k).2.length≤k∧∀l∈(xw es k).2,l.length≤es.length+1:=by
 intro k
 induction k with
 |zero=>intro _;simp[xw]
 |succ k ih=>
  intro hk;obtain⟨h1,h2,h3,h4⟩:=ih (by omega);rw[a2a (by omega)];unfold zr;split
  ·exact⟨h1,h2,by omega,h4⟩
  have hm:es.getD k e0∈es:=by
   have:es.getD k e0=es[k]'(by omega):=by simp[cw,show k<es.length by omega]
   rw[this];exact df _
  obtain⟨k1,k2,k3,k4⟩:=Xx hc (es.length+1) _ _ h1 h2 hm;refine⟨k1,k2,by simp only[db,cj,du];omega,fun l hl=>?_⟩;rcases lx.1 hl with hl|hl
  ·exact h4 l hl
  simp only[Tc]at hl;subst hl;unfold Ki;rw[Mr];exact ij (Dg _ _) k3
theorem a4a(f:Ed→Sp×Sp)(es:List Ed):∀p∈es.foldl (fun L e=>u0 (f e).1 (f e).2 L) [],∀q∈p.2,∃e∈es,(f e).2=q:=by
 have put:∀(k v:Sp) (L:Adj) (Q:Sp→Prop),(∀p∈L,∀q∈p.2,Q q)→Q v→∀p∈u0 k v L,∀q∈p.2,Q q:=by
  intro k v L Q
  induction L with
  |nil=>intro _ hv p hp q hq;simp[u0]at hp;subst hp;simp at hq;subst hq;exact hv
  |cons x r ih=>
   obtain⟨a,l⟩:=x;intro h hv p hp q hq;simp only[u0]at hp;split at hp
   ·rcases fb.1 hp with rfl|hp
    ·rcases lx.1 hq with hq|hq
     ·exact h (a,l) (by simp) q hq
     simp at hq;subst hq;exact hv
    exact h p (by simp[hp]) q hq
   rcases fb.1 hp with rfl|hp
   ·exact h (a,l) (by simp) q hq
   exact ih (fun p hp=>h p (by simp[hp])) hv p hp q hq
 have:∀r:List Ed,∀p∈(r.reverse).foldl (fun L e=>u0 (f e).1 (f e).2 L) [],∀q∈p.2,∃e∈r,(f e).2=q:=by
  intro r
  induction r with
  |nil=>intro p hp;simp at hp
  |cons e r ih=>
   rw[tu,pn];simp only[Aq,aIt];exact put _ _ _ (fun q=>∃e'∈e::r,(f e').2=q) (fun p hp q hq=>by obtain⟨e',h1,h2⟩:=ih p hp q hq;exact⟨e',by simp[h1],h2⟩) ⟨e,by simp,rfl⟩
 intro p hp q hq;obtain⟨e,h1,h2⟩:=this es.reverse p (by rw[pz];exact hp) q hq;exact⟨e,by simpa using h1,h2⟩
theorem x9.xc{s:PS}{id sz:Nat}{dm:List (List D)}{v:V}{ids:List Nat}(h:x9 s id sz dm v)(hne:ids≠[])(hi:id∉ids):x9 (s.xc ids) id sz dm (v.xc s ids):=by
 rcases h with ⟨h1,rfl⟩|⟨h1,rfl,h3⟩
 ·exact .inl ⟨h1,rfl⟩
 refine .inr ⟨h1,?_,?_⟩
 ·rw[a48 hne];simp only[V.xc,C.xc,al hi,C.toV]
 rw[Lz hne hi];simp only[Ix,h3]
theorem aCl(s:PS)(ids:List Nat)(u:List Ed):(u.map cM).map (fun e=>(e.1,C.xc s ids e.2))=u.map cM:=by
 rw[a4f];exact Dd fun e _=>rfl
section
variable{P:Program}(A:Pr3 P){ρ:Vp}
def a84(mo mi:List (D×D))(es:List Ed)(out:List (List Sp))(i:Nat)(s':PS):Prop:=
 s'.base=0∧s'.tmp 2= .ie 2 (s'.av 2) 0∧s'.dc 2=some (.loc [.d .ck])∧s'.tmp 3= .ie 3 (s'.av 3) 0∧s'.dc 3=some (.loc [.d (.map mo),.d (.map mi)])∧
 s'.tmp 4= .l9 12 (s'.av 12)∧s'.tmp 13= .d (.gz 4 (es.map Dj))∧s'.tmp 14= .d (.int ab es.length)∧s'.tmp 15= .d (.int ab i)∧x9 s' 49 1 (out.map fun l=>[xf l]) (s'.tmp 5)
theorem aem(L:a89 P ρ)(hρ:ρ.f 6=A.ee)(es:List Ed)(hes:es.length≤1000)(hc:Km es)(hsm:∀e∈es,SmL e.1∧SmL e.2):
  iz P A.uz [Rt es] (.agg [if(xw es es.length).2=[]then .ck else ku (xh (xw es es.length).2)]):=by
 refine ec A.mo A.Vz (by simp) ?_;show kq P (Ha A.ua A.zp A.oo A.mh) (mb _ _) _;have hn:=alh A es (by omega);obtain⟨mo,hmo⟩:∃m,Ss (Bd es)= .map m:=⟨_,rfl⟩;obtain⟨mi,hmi⟩:∃m,Ss (Ht es)= .map m:=⟨_,rfl⟩;simp only[Rt,ayx,hmo,hmi]at hn;simp only[Ha,Rt,go_sem,aa,reduceCtorEq];refine ft hn ?_;simp only[go_sem,aa,ae,reduceCtorEq];refine we (fun s'=>a84 mo mi es (xw es es.length).2 es.length s') ?_ ?_
 ·refine fp es.length (fun i s'=>a84 mo mi es (xw es i).2 i s'∧s'.mp 12=some ((xw es i).1.map cM)) ?_ ?_
  ·simp only[a84,go_sem,aa,ag];exact⟨x9.nil,rfl⟩
  rintro i s' hi ⟨⟨eb,f2,b2,f3,b3,f4,f13,f14,f15,acc⟩,m12⟩;by_cases hlt:(i:Int)<es.length
  ·have dq:i<es.length:=by omega
   have wi:=dh ((i:Int)+1) (by omega) (by omega);have hg:=Dm dq
   have hgm:es.getD i e0∈es:=by
    have:es.getD i e0=es[i]:=by simp[cw,dq]
    rw[this];exact df _
   obtain⟨u1,u2,u3,u4⟩:=Sv hc i (by omega);have a1u:=a2a dq;unfold zr at a1u
   generalize hs0:es.getD i e0=s0 at*
   have hlk:=a42 s0 (xw es i).1;simp only[Dj]at hlk;cases hm:Ni (xw es i).1 s0
   ·rw[hm]at a1u hlk;simp only[fw,bn]at a1u hlk;simp only[go_sem,aa,ae,reduceCtorEq,PS.ents,ca,Cy,eb,f4,f13,f14,f15,m12,hlt,hg,bp,ao,hlk];refine we (fun s2=>a84 mo mi es (xw es i).2 i s2∧s2.mp 12=some ((Ah es (es.length+1) (xw es i).1 s0).2.map cM)∧x9 s2 42 2 ((Ah es (es.length+1) (xw es i).1 s0).1.map C5) (s2.tmp 8)) ?_ ?_
    ·refine fp (es.length+1) (fun k s2=>∃(u:List Ed) (e:Ed) (ac:List Sp),a84 mo mi es (xw es i).2 i s2∧s2.mp 12=some (u.map cM)∧s2.tmp 9= .ie 9 (s2.av 9) 0∧s2.dc 9=some (.loc [.d (.int ab e.1.1),.d (.int ab e.1.2),.d (.int ab e.2.1),.d (.int ab e.2.2)])∧x9 s2 42 2 (ac.map C5) (s2.tmp 8)∧
      u.Nodup∧(∀x∈u,x∈es)∧e∈es∧u.length=(xw es i).1.length+k∧ac.length=k∧Ah es (es.length+1) (xw es i).1 s0=(ac++(Ah es (es.length+1-k) u e).1,(Ah es (es.length+1-k) u e).2)) ?_ ?_
     ·refine⟨(xw es i).1,s0,[],?_⟩;simp only[a84,go_sem,aa,f2,b2,f3,b3,f4,f13,f14,f15,m12];refine⟨acc.mono (by simp[aj]) (by simp[aj]),?_⟩;exact⟨x9.nil,u1,u2,hgm,rfl⟩
     clear eb f2 b2 f3 b3 f4 f13 f14 f15 acc m12;rintro k s2 hk ⟨u,e,ac,⟨eb,f2,b2,f3,b3,f4,f13,f14,f15,acc⟩,m12,f9,b9,ads,v1,v2,v3,v4,v5,v6⟩;have hul:=aop v1 v2
     have hkn:k<es.length+1:=by omega
     obtain⟨n,hn2⟩:∃n,es.length+1-k=n+1:=⟨es.length-k,by omega⟩
     have hn3:es.length+1-(k+1)=n:=by omega
     have ajr:=a42 e u;simp only[Dj]at ajr
     have ht:Ah es (n+1) u e=if Ni u e then([],u)else((e.1::(Ah es n (u++[e]) (a3l es e)).1),(Ah es n (u++[e]) (a3l es e)).2):=rfl
     rw[hn2,ht]at v6;cases hme:Ni u e
     ·rw[hme]at v6 ajr;simp only[fw,bn]at v6 ajr;have X6:=as4 e u hme;simp only[Dj]at X6;simp only[go_sem,aa,de,ae,ah,di,PS.ents,ca,Cy,eb,f4,m12,f9,b9,ajr,X6];refine uh (dm:=ac.map C5) (ys:=[C5 e.1]) (osz:=some 2) ?_ ?_ rfl rfl ?_ (by simp) ?_
      ·simp only[go_sem,aa];exact ads.mono (by simp[aj]) (by simp[aj])
      ·simp only[go_sem,aa,qh];rfl
      ·simp only[ag,cj,du];omega
      intro s3 g;have Hg:=g.acc (by simp);rw[g.tmp,cu]at Hg;simp only[gd]at Hg;have gv2:=g.av 2 (by simp[]);have gv3:=g.av 3 (by simp[]);have gv9:=g.av 9 (by simp[]);have atu:=g.av 12 (by simp[]);have aEq:=g.av 49 (by simp[])
      have gb2:s3.dc 2=s2.dc 2:=by rw[g.dc];simp[aj]
      have gb3:s3.dc 3=s2.dc 3:=by rw[g.dc];simp[aj]
      have gb9:s3.dc 9=s2.dc 9:=by rw[g.dc];simp[aj]
      have aHk:s3.dc 49=s2.dc 49:=by rw[g.dc];simp[aj]
      have gm:s3.mp 12=some ((u++[e]).map cM):=by rw[g.mp];simp[aj]
      simp only[aj,aa,reduceIte]at gv2 gv3 gv9 atu aEq;obtain⟨fo,hfo,aEl⟩:=hc.1 e v3;have hgo:=ayj e.2 es ⟨fo,hfo,aEl⟩
      obtain⟨hh,hr,hhr⟩:∃hh hr,outs es e.2=hh::hr:=by
       cases ho:outs es e.2 with
       |nil=>have:=Rh.2 (show(e.2,fo.2)∈es by rw[←aEl];exact hfo);rw[ho]at this;simp at this
       |cons a r=>exact⟨a,r,rfl⟩
      have U9:∀x∈hh::hr,SmL x:=fun x hx=>(hsm _ (Rh.1 (by rw[hhr];exact hx))).2;rw[hhr]at hgo;have hol:=V8 es;obtain⟨ka,hka⟩:=Xp hgo;have hrl:=hol.2 _ hka;simp only[cj]at hrl;have hnx:=aAn A (O:=Bd es) (I:=Ht es) e.1 e.2 hh hr (hsm e v3).1 (hsm e v3).2 (U9 hh (by simp)) (fun q hq=>U9 q (by simp[hq])) (by omega) hgo;rw[hmo,hmi]at hnx;simp only[yx]at hnx
      have aH6:a3l es e=(e.2,a5j (hh::hr) e.1 e.2):=by unfold a3l;rw[hhr]
      simp only[go_sem,aa,de,ew,ed,ey,ae,ah,g.tmp,g.base,f3,b3,f9,b9,gv3,gv9,gb3,gb9];refine Gx hnx ?_;simp only[a84,go_sem,aa,ae,ah,f2,b2,f3,b3,f4,f13,f14,f15,f9,b9,gv2,gv3,gv9,atu,gb2,gb3,gb9,gm,hkn]
      have aGw:e∉u:=fun h=>by rw[Mi.2 h]at hme;cases hme
      refine⟨u++[e],a3l es e,ac++[e.1],acc.mono ?_ ?_,rfl,by rw[aH6],?_,?_,?_,age hc v3,by simp only[db,cj,du];omega,by simp only[db,cj,du];omega,?_⟩
      ·simp only[aj,aa,reduceIte,aEq]
      ·simp only[aj,aa,reduceIte,aHk]
      ·rw[fl];exact Hg.mono (by simp[aj]) (by simp[aj])
      ·rw[T3];exact⟨v1,by simp,fun x hx y hy=>by simp at hy;subst hy;exact fun q=>aGw (q▸hx)⟩
      ·intro x hx;rcases lx.1 hx with hx|hx
       ·exact v2 x hx
       simp at hx;subst hx;exact v3
      rw[v6,hn3];simp
     rw[hme]at v6 ajr;simp only[cz]at v6 ajr;simp only[a84,go_sem,aa,ae,reduceCtorEq,PS.ents,ca,Cy,eb,f2,b2,f3,b3,f4,f13,f14,f15,m12,f9,b9,ajr,v6,sr];exact⟨acc.mono rfl rfl,ads.mono rfl rfl⟩
    clear eb f2 b2 f3 b3 f4 f13 f14 f15 acc m12;rintro s2 ⟨⟨eb,f2,b2,f3,b3,f4,f13,f14,f15,acc⟩,m12,ads⟩;have hl0:=an4 (es:=es) (n:=es.length) hm;obtain⟨w1,w2,w3,w4⟩:=Xx hc (es.length+1) _ _ u1 u2 hgm
    generalize hT:Ah es (es.length+1) (xw es i).1 s0=T at*
    obtain⟨l,uf⟩:=T;simp only at hl0 w1 w2 w3 w4 a1u m12 ads;rcases ads with ⟨h0,_⟩|⟨_,f8,b42⟩
    ·exact absurd (by simpa using h0) hl0
    simp only[go_sem];refine Tu [42] ?_
    have hne:[42]≠[]:=by simp
    have n2:=Kc (s:=s2) hne 2;have n3:=Kc (s:=s2) hne 3;have n4:=Kc (s:=s2) hne 4;have n8:=Kc (s:=s2) hne 8;have n13:=Kc (s:=s2) hne 13;have n14:=Kc (s:=s2) hne 14;have n15:=Kc (s:=s2) hne 15;have n5:=Kc (s:=s2) hne 5;have nb2:=Lz (s:=s2) hne (i:=2) (by simp);have nb3:=Lz (s:=s2) hne (i:=3) (by simp);have nm:=acy (s:=s2) hne (i:=12) (by simp);have nv:=a48 (s:=s2) hne;have azp:=Uk [42] s2;have aBm:=acc.xc hne (by simp)
    have aHa:s2.dm 42 (s2.av 42)=some (2,l.map C5):=by unfold PS.dm;rw[bd rfl,b42]
    rw[eb]at azp;simp only[f2,f3,f4,f8,f13,f14,f15,V.xc,C.xc,C.toV,fb,l8,or_false,aa,bn,cz,aHa]at n2 n3 n4 n8 n13 n14 n15;simp only[Ix,b2,b3,dr,gn,C.xc]at nb2 nb3;simp only[aaj,m12,ir,aCl]at nm;rw[←n5]at aBm
    generalize s2.xc [42]=s4 at*
    rw[←nv]at n2 n3 n4
    have hbg:=alm A (O:=Bd es) (I:=Ht es) l hl0 (by omega) (fun p hp=>by
     obtain⟨f,hf,rfl⟩:=w4 p hp;refine⟨(hsm f hf).1,?_⟩;obtain⟨gg,hgg,hg2⟩:=hc.2 f hf;obtain⟨k1,k2⟩:=atv f.1 es ⟨gg,hgg,hg2⟩;obtain⟨a,li,hal⟩:=aD1 k2
     exact⟨a,li,by rw[k1,hal]⟩) (fun p hp=>⟨ij ((V8 es).2 p hp) (by omega),fun q hq=>?_⟩) (fun p hp q hq=>?_)
    ·rw[hmo,hmi]at hbg;simp only[xf]at hbg;have hll:(l.map C5).length=l.length:=ag _;simp only[go_sem,aa,ae,azp,n3,n8,nb3];refine j5 hbg ?_;have aIm:∀(tm:Nat→V),x9 {s4 with tmp:=tm} 49 1 ((xw es i).2.map fun l=>[xf l]) (s4.tmp 5):=fun tm=>aBm.mono rfl rfl;simp only[go_sem,aa,di];refine uh (dm:=(xw es i).2.map fun l=>[xf l]) (ys:=[[xf (Ki (Bd es) (Ht es) l)]]) (osz:=some 1) ?_ ?_ rfl rfl ?_ (by simp) ?_
     ·simp only[go_sem,aa];exact aBm.mono (by simp[aj]) (by simp[aj])
     ·simp only[go_sem,aa,qh];rfl
     ·simp only[ag,cj,du];omega
     intro s3 g;have Hg:=g.acc (by simp);rw[g.tmp,cu]at Hg;simp only[gd]at Hg;have gv2:=g.av 2 (by simp[]);have gv3:=g.av 3 (by simp[]);have atu:=g.av 12 (by simp[])
     have gb2:s3.dc 2=s4.dc 2:=by rw[g.dc];simp[aj]
     have gb3:s3.dc 3=s4.dc 3:=by rw[g.dc];simp[aj]
     have gm:s3.mp 12=s4.mp 12:=by rw[g.mp]
     simp only[aj,aa,reduceIte]at gv2 gv3 atu;simp only[a84,go_sem,aa,reduceCtorEq,g.tmp,g.base,n2,n3,n4,n13,n14,n15,nb2,nb3,nm,gv2,gv3,atu,gb2,gb3,gm,wi,dq,a1u];refine⟨by rw[lz];rfl,?_⟩;rw[fl];exact Hg.mono rfl rfl
    ·obtain⟨e,he,rfl⟩:=a4a (fun e=>(e.1,e.2)) es p hp q hq;exact(hsm e he).2
    obtain⟨e,he,rfl⟩:=a4a (fun e=>(e.2,e.1)) es p hp q hq;exact(hsm e he).1
   rw[hm]at a1u hlk;simp only[cz]at a1u hlk;simp only[a84,go_sem,aa,ae,reduceCtorEq,PS.ents,ca,Cy,eb,f2,b2,f3,b3,f4,f13,f14,f15,m12,hlt,hg,bp,ao,hlk,wi,dq,a1u];exact⟨by rw[lz];rfl,acc.mono (by simp[aj]) (by simp[aj])⟩
  have:i=es.length:=by omega
  subst this;simp only[a84,go_sem,aa,reduceCtorEq,eb,f2,b2,f3,b3,f4,f13,f14,f15,hlt];exact acc.mono rfl rfl
 rintro s' ⟨eb,f2,b2,f3,b3,f4,f13,f14,f15,acc⟩;obtain⟨_,_,c3,c4⟩:=Sv hc es.length (ay _)
 generalize(xw es es.length).2=out at*
 rcases acc with ⟨h0,f5⟩|⟨h0,f5,b49⟩
 ·have h0':out=[]:=by simpa using h0
  rw[bd h0'];simp only[go_sem,eb,f5];refine lr (a1h A L hρ _ 1000) ?_;simp only[go_sem,aa,PS.j6,PS.mem,f2,b2]
 have h0':¬out=[]:=by simpa using h0
 rw[al h0'];simp only[go_sem,eb,f5,ag];refine lr (aek A L hρ out (by omega) (fun l hl=>ij (c4 l hl) (by omega)) (by simp only[PS.mem];exact b49) rfl 1000) ?_;have ag5:(xh out).length=out.length:=(Bb out).length_eq;simp only[go_sem,aa,PS.j6,PS.mem,V3,f2,b2,ku,ag,ag5,fg]
end
def okL(l:List Sp):Bool:=decide (3≤l.length)&&l.all G3
def Cn(ls:List (List Sp)):List (List Sp):=ls.map (Ki (Bd (ig ls)) (Ht (ig ls)))
def Hy(ls:List (List Sp)):List (List Sp):=(xw (ig ls) (ig ls).length).2
def Y3(ls:List (List Sp)):Bool:=decide (xg ls≤60)&&decide (ls.length≤60)
def ot(ls:List (List Sp)):Bool:=Y3 ls&&(ls.all okL&&(S3 (ig ls)&&(Sy (ig ls)&&decide (xh (Cn ls)=xh (Hy ls)))))
def a0w(ls:List (List Sp)):D:=if Hy ls=[]then .ck else ku (xh (Hy ls))
theorem Sr{ls:List (List Sp)}(h:∀l∈ls,3≤l.length):Km (ig ls):=by
 have at_:∀(l:List Sp) (k:Nat),l∈ls→k<l.length→B8 l k∈ig ls:=by
  intro l k hl hk;unfold ig;rw[Pb];exact⟨l,hl,by unfold jg;exact gr.2 ⟨k,ez.2 hk,rfl⟩⟩
 have of:∀e∈ig ls,∃l∈ls,∃k,k<l.length∧e=B8 l k:=by
  intro e he;unfold ig at he;obtain⟨l,hl,he⟩:=Pb.1 he;unfold jg at he;obtain⟨k,hk,rfl⟩:=gr.1 he;exact⟨l,hl,k,ez.1 hk,rfl⟩
 refine⟨fun e he=>?_,fun e he=>?_⟩
 ·obtain⟨l,hl,k,hk,rfl⟩:=of e he;exact⟨_,at_ l ((k+1)%l.length) hl (a8a _ (by omega)),rfl⟩
 obtain⟨l,hl,k,hk,rfl⟩:=of e he;refine⟨_,at_ l ((k+(l.length-1))%l.length) hl (a8a _ (by omega)),?_⟩;have h3:=h l hl
 have:((k+(l.length-1))%l.length+1)%l.length=k:=by
  rw[Nat.mod_add_mod,show k+(l.length-1)+1=k+l.length by omega,Nat.add_mod_right];exact aaw hk
 show l.getD (((k+(l.length-1))%l.length+1)%l.length) (0,0)=l.getD k (0,0);rw[this]
theorem akt(es:List Ed)(x:List Ed×List (List Sp))(l:List Ed):x.2.length≤(l.foldl (zr es) x).2.length:=by
 induction l generalizing x with
 |nil=>exact ay _
 |cons e r ih=>
  rw[Aq];refine ij ?_ (ih _);unfold zr;split
  ·exact ay _
  simp
theorem aum{es:List Ed}(h:es≠[]):(xw es es.length).2≠[]:=by
 cases es with
 |nil=>exact absurd rfl h
 |cons e r=>
  intro h0;have:=akt (e::r) (zr (e::r) ([],[]) e) r;unfold xw at h0;rw[eh,Aq]at h0;rw[h0]at this;simp[zr,Ni]at this
theorem au9{ls:List (List Sp)}(h:ls≠[])(h3:∀l∈ls,3≤l.length):ig ls≠[]:=by
 intro h0;have hl:=O7 ls;rw[h0]at hl
 cases ls with
 |nil=>exact h rfl
 |cons l r=>
  have:=h3 l (by simp);simp[xg]at hl;omega
theorem aat{ls:List (List Sp)}(h3:∀l∈ls,3≤l.length):Hy ls=[]↔ls=[]:=by
 constructor
 ·intro h;by_cases h0:ls=[]
  ·exact h0
  exact absurd h (aum (au9 h0 h3))
 rintro rfl;rfl
theorem Yp{ls:List (List Sp)}{l:List Sp}(h:l∈ls):l.length≤xg ls:=by
 unfold xg
 induction ls with
 |nil=>simp at h
 |cons x r ih=>
  simp only[dr,aKr];rcases fb.1 h with rfl|h
  ·omega
  have:=ih h;omega
theorem asv{ls:List (List Sp)}{l:List Sp}{s:Sp}(hl:l∈ls)(hs:s∈l):∃e∈ig ls,e.1=s:=by
 obtain⟨k,hk,rfl⟩:=gf.1 hs;refine⟨B8 l k,?_,?_⟩
 ·unfold ig;rw[Pb];exact⟨l,hl,by unfold jg;exact gr.2 ⟨k,ez.2 hk,rfl⟩⟩
 unfold B8;simp[cw,hk]
theorem aod(l:List Sp):((dt l.length).any fun i=> !G3 (l.getD i (0,0)))= !(l.all G3):=by
 rw[Td];simp only[Av,ez,qp,a3p];constructor
 ·rintro⟨i,hi,h⟩;refine⟨l[i],df _,?_⟩
  have:l.getD i (0,0)=l[i]:=by simp[cw,hi]
  rw[this]at h;simp[h]
 rintro⟨x,hx,h⟩;obtain⟨i,hi,rfl⟩:=gf.1 hx;refine⟨i,hi,?_⟩
 have:l.getD i (0,0)=l[i]:=by simp[cw,hi]
 rw[this];simpa using h
def ava(ls:List (List Sp))(s':PS):Prop:=
 s'.base=0∧s'.tmp 1= .ie 1 (s'.av 1) 0∧s'.dc 1=some (.loc [.d (.gz 1 (ls.map fun l=>[xf l]))])∧s'.tmp 2= .ie 2 (s'.av 2) 0∧s'.dc 2=some (.loc [.d .ck])
section
variable{P:Program}(A:Pr3 P){ρ:Vp}
theorem ar4(L:a89 P ρ)(hρ:ρ.f 6=A.ee)(ls:List (List Sp))(h1:ls.length≤2^30)(h2:∀l∈ls,l.length≤2^30):
  iz P A.x7 [.agg [ku ls]] (.Ar [if ot ls then .agg [a0w ls]else .agg [.ck],.int ab (if ot ls then 0 else 170)]):=by
 refine ec A.mo A.a6h (by simp) ?_;show kq P (Om A.tp A.my A.zo A.pg A.Bp A.Bq A.uz A.ua A.oo A.mh A.gu A.j0) (mb _ _) _;have hsp:=aw4 A.toPr ls h1 h2;have eL:ku ls= .gz 1 (ls.map fun l=>[xf l]):=rfl;simp only[eL]at hsp;rw[eL];simp only[Om,go_sem,aa];refine ft hsp ?_
 have szF:Y3 ls=false→ot ls=false:=fun h=>by unfold ot;rw[h];rfl
 by_cases c1:(xg ls:Int)>60
 ·have hb:=szF (by unfold Y3;rw[decide_eq_false (by omega)];rfl);rw[hb];simp only[go_sem,aa,reduceCtorEq,c1]
 by_cases c2:(ls.length:Int)>60
 ·have hb:=szF (by unfold Y3;rw[decide_eq_false (show¬ls.length≤60 by omega),qq]);rw[hb];simp only[go_sem,aa,reduceCtorEq,c1,c2,ag]
 simp only[go_sem,aa,reduceCtorEq,c1,c2,ag];refine we (fun s'=>ava ls s'∧∀l∈ls,okL l=true) ?_ ?_
 ·refine fp ls.length (fun i s'=>ava ls s'∧s'.tmp 23= .d (.gz 1 (ls.map fun l=>[xf l]))∧s'.tmp 24= .d (.int ab ls.length)∧s'.tmp 25= .d (.int ab i)∧∀k (h:k<ls.length),k<i→okL ls[k]=true) ?_ ?_
  ·simp only[ava,go_sem,aa];exact fun k _ h=>absurd h (aFl _)
  rintro i s' hi ⟨⟨eb,f1,b1,f2,b2⟩,f23,f24,f25,hI⟩;by_cases hlt:(i:Int)<ls.length
  ·have dq:i<ls.length:=by omega
   have wi:=dh ((i:Int)+1) (by omega) (by omega);have hg:=Fu dq;have hli:=h2 _ (df dq)
   have ayg:okL ls[i]=false→ot ls=false:=fun h=>by
    have:ls.all okL=false:=a3p.2 ⟨_,df dq,by rw[h];simp⟩;unfold ot;rw[this];simp
   have ajs:=aro A.toPr (l:=ls[i]) (g:=A.zo) (j2:=[]) (p:=fun k=> !G3 (ls[i].getD k (0,0))) (fun k hk=>by
    have:ls[i].getD k (0,0)=ls[i][k]:=by simp[cw,hk]
    rw[this]
    exact aw7 A.toPr _) (by omega)
   rw[aod]at ajs;simp only[xf]at ajs;simp only[go_sem,aa,reduceCtorEq,eb,f23,f24,f25,hlt,hg,bp,ao,ag];by_cases c3:(ls[i].length:Int)<3
   ·rw[ayg (by unfold okL;rw[decide_eq_false (show¬3≤ls[i].length by omega)];rfl)];simp only[go_sem,aa,f2,b2,c3]
   simp only[go_sem,aa,c3];refine j5 ajs ?_;cases c4:ls[i].all G3
   ·rw[ayg (by unfold okL;rw[c4,qq])];simp only[go_sem,aa,f2,b2]
   simp only[ava,go_sem,aa,reduceCtorEq,f1,b1,f2,b2,f23,f24,f25,wi,dq];refine⟨by rw[lz];rfl,fun k hk hk2=>?_⟩;rcases Wn.1 hk2 with h|rfl
   ·exact hI k hk h
   unfold okL;rw[c4,decide_eq_true (show 3≤ls[k].length by omega)];rfl
  have:i=ls.length:=by omega
  subst this;simp only[ava,go_sem,aa,reduceCtorEq,eb,f1,b1,f2,b2,f24,f25,hlt];intro l hl;obtain⟨k,hk,rfl⟩:=gf.1 hl;exact hI k hk hk
 rintro s' ⟨⟨eb,f1,b1,f2,b2⟩,hok⟩
 have h3:∀l∈ls,3≤l.length:=fun l hl=>by
  have:=hok l hl;unfold okL at this;simp only[da,decide_eq_true_eq]at this;exact this.1
 have hsm:∀e∈ig ls,SmL e.1∧SmL e.2:=fun e he=>by
  obtain⟨l,hl,m1,m2⟩:=aab he;have:=hok l hl;unfold okL at this;simp only[da,dj]at this;exact⟨Ob (this.2 _ m1),Ob (this.2 _ m2)⟩
 have hcl:=Sr h3
 have hel:(ig ls).length≤60:=by rw[O7];omega
 have hall:ls.all okL=true:=dj.2 hok
 have C9:Y3 ls=true:=by unfold Y3;rw[decide_eq_true (by omega),decide_eq_true (by omega)];rfl
 have hpB:ot ls=(S3 (ig ls)&&(Sy (ig ls)&&decide (xh (Cn ls)=xh (Hy ls)))):=by unfold ot;rw[hall,C9];rfl
 have hse:=ai8 A.toPr ls h1 (by omega);have hsi:=ar2 A.toPr (ig ls) (by omega) hsm;have hbo:=arc A.toPr (ig ls) (by omega) hsm;rw[eL]at hse;simp only[Rt]at hse hsi hbo;simp only[go_sem,eb,f1,b1];refine ft hse ?_;simp only[go_sem,aa];refine ft hsi ?_;cases c5:S3 (ig ls)
 ·rw[c5]at hpB;rw[hpB];simp only[go_sem,aa,f2,b2,dz]
 simp only[go_sem,aa];refine ft hbo ?_;cases c6:Sy (ig ls)
 ·rw[c5,c6]at hpB;rw[hpB];simp only[go_sem,aa,f2,b2,dz,u9]
 rw[c5,c6]at hpB;simp only[u9]at hpB;have hca:=aem A L hρ (ig ls) (by omega) hcl hsm;have hne:=alh A (ig ls) (by omega);obtain⟨mo,hmo⟩:∃m,Ss (Bd (ig ls))= .map m:=⟨_,rfl⟩;obtain⟨mi,hmi⟩:∃m,Ss (Ht (ig ls))= .map m:=⟨_,rfl⟩;simp only[Rt,ayx,hmo,hmi]at hca hne;have ayf:iz P A.uz [.gz 4 ((ig ls).map Dj)] (.agg [a0w ls]):=hca
 have hbg:∀l∈ls,iz P A.oo [.agg [.map mo,.map mi],.gz 2 (l.map C5)] (.gz 2 ((Ki (Bd (ig ls)) (Ht (ig ls)) l).map C5)):=by
  intro l hl
  have hlt:l.length≤60:=by
   have:=Yp hl;omega
  have:=alm A (O:=Bd (ig ls)) (I:=Ht (ig ls)) l (fun h=>by have:=h3 l hl;rw[h]at this;simp at this) (by omega) (fun p hp=>?_) (fun p hp=>⟨ij ((V8 (ig ls)).2 p hp) (by omega),fun q hq=>?_⟩) (fun p hp q hq=>?_)
  ·rw[hmo,hmi]at this;exact this
  ·obtain⟨e,he,rfl⟩:=asv hl hp;refine⟨(hsm e he).1,?_⟩;obtain⟨gg,hgg,hg2⟩:=hcl.2 e he;obtain⟨k1,k2⟩:=atv e.1 (ig ls) ⟨gg,hgg,hg2⟩;obtain⟨a,li,hal⟩:=aD1 k2;exact⟨a,li,by rw[k1,hal]⟩
  ·obtain⟨e,he,rfl⟩:=a4a (fun e=>(e.1,e.2)) (ig ls) p hp q hq;exact(hsm e he).2
  obtain⟨e,he,rfl⟩:=a4a (fun e=>(e.2,e.1)) (ig ls) p hp q hq;exact(hsm e he).1
 rcases(show(ls=[]∧a0w ls= .ck)∨(ls≠[]∧a0w ls= .gz 1 ((xh (Hy ls)).map fun l=>[xf l]))by
  unfold a0w;by_cases hl0:ls=[]
  ·exact .inl ⟨hl0,bd ((aat h3).2 hl0)⟩
  exact .inr ⟨hl0,al fun h=>hl0 ((aat h3).1 h)⟩)with ⟨hl0,hX⟩|⟨hl0,hX⟩
 ·rw[hX]at ayf⊢;simp only[go_sem,aa];refine ft ayf ?_;simp only[go_sem,aa];refine ft hne ?_;simp only[go_sem,aa,ae,f1,b1]
  have aGy:ls.length=0:=by rw[hl0];rfl
  simp only[ag,aGy];refine we (fun s2=>s2.base=0∧s2.tmp 2= .ie 2 (s2.av 2) 0∧s2.dc 2=some (.loc [.d .ck])∧s2.tmp 7= .ie 7 (s2.av 7) 0∧s2.dc 7=some (.loc [.d .ck])∧s2.tmp 9= .d .ck) ?_ ?_
  ·refine fp 0 (fun i s2=>s2.base=0∧s2.tmp 2= .ie 2 (s2.av 2) 0∧s2.dc 2=some (.loc [.d .ck])∧s2.tmp 7= .ie 7 (s2.av 7) 0∧s2.dc 7=some (.loc [.d .ck])∧s2.tmp 9= .d .ck∧s2.tmp 55= .d (.int ab 0)∧s2.tmp 56= .d (.int ab 0)) ?_ ?_
   ·simp only[go_sem,aa,f2,b2]
   clear eb f1 b1 f2 b2;rintro i s2 hi ⟨eb,f2,b2,f7,b7,f9,f55,f56⟩;simp only[go_sem,aa,reduceCtorEq,eb,f2,b2,f7,b7,f9,f55,f56]
  clear eb f1 b1 f2 b2;rintro s2 ⟨eb,f2,b2,f7,b7,f9⟩
  have hd:decide (xh (Cn ls)=xh (Hy ls))=true:=by subst hl0;exact decide_eq_true rfl
  rw[hd]at hpB;rw[hpB];simp only[go_sem];refine af3 (fun s3=>s3.base=0∧s3.tmp 2= .ie 2 (s3.av 2) 0∧s3.dc 2=some (.loc [.d .ck])∧s3.tmp 7= .ie 7 (s3.av 7) 0∧s3.dc 7=some (.loc [.d .ck])∧s3.tmp 72= .d (.bool false)) ?_ ?_
  ·simp only[ahr,go_sem,aa,eb,f7,b7,f9]
   repeat' apply aLt
   all_goals
    refine lr (a1h A L hρ _ 1000) ?_;simp only[go_sem,aa,PS.j6,PS.mem,f7,b7];refine Gx (aie A) ?_;simp only[go_sem,aa,f2,b2,f7,b7]
  clear eb f2 b2 f7 b7 f9;rintro s3 ⟨eb,f2,b2,f7,b7,f72⟩;simp only[go_sem,aa,eb,f2,b2,f7,b7,f72]
 rw[hX]at ayf⊢;simp only[go_sem,aa];refine ft ayf ?_;simp only[go_sem,aa];refine ft hne ?_;simp only[go_sem,aa,ae,f1,b1,ag]
 refine we (fun s2=>s2.base=0∧s2.tmp 2= .ie 2 (s2.av 2) 0∧s2.dc 2=some (.loc [.d .ck])∧s2.tmp 7= .ie 7 (s2.av 7) 0∧s2.dc 7=some (.loc [.d (.gz 1 ((xh (Hy ls)).map fun l=>[xf l]))])∧
  x9 s2 65 1 ((Cn ls).map fun l=>[xf l]) (s2.tmp 9)) ?_ ?_
 ·refine fp ls.length (fun i s2=>s2.base=0∧s2.tmp 1= .ie 1 (s2.av 1) 0∧s2.dc 1=some (.loc [.d (.gz 1 (ls.map fun l=>[xf l]))])∧s2.tmp 2= .ie 2 (s2.av 2) 0∧s2.dc 2=some (.loc [.d .ck])∧s2.tmp 7= .ie 7 (s2.av 7) 0∧s2.dc 7=some (.loc [.d (.gz 1 ((xh (Hy ls)).map fun l=>[xf l]))])∧
   s2.tmp 8= .ie 8 (s2.av 8) 0∧s2.dc 8=some (.loc [.d (.map mo),.d (.map mi)])∧s2.tmp 54= .d (.gz 1 (ls.map fun l=>[xf l]))∧s2.tmp 55= .d (.int ab ls.length)∧s2.tmp 56= .d (.int ab i)∧
   x9 s2 65 1 ((Cn (ls)|>.take i).map fun l=>[xf l]) (s2.tmp 9)) ?_ ?_
  ·simp only[go_sem,aa,f1,b1,f2,b2,gn];exact x9.nil
  clear eb f1 b1 f2 b2;rintro i s2 hi ⟨eb,f1,b1,f2,b2,f7,b7,f8,b8,f54,f55,f56,acc⟩;by_cases hlt:(i:Int)<ls.length
  ·have dq:i<ls.length:=by omega
   have wi:=dh ((i:Int)+1) (by omega) (by omega);have hg:=Fu dq;have hb:=hbg ls[i] (df _)
   have hot:(Cn ls).take (i+1)=(Cn ls).take i++[Ki (Bd (ig ls)) (Ht (ig ls)) ls[i]]:=by
    unfold Cn;rw[←Lr,←Lr,gl,fl];simp[dq]
   have hol:(Cn ls).length=ls.length:=by unfold Cn;simp
   simp only[go_sem,aa,ae,reduceCtorEq,eb,f8,b8,f54,f55,f56,hlt,hg,bp,ao];refine j5 hb ?_;simp only[go_sem,aa,di];refine uh (dm:=((Cn ls).take i).map fun l=>[xf l]) (ys:=[[xf (Ki (Bd (ig ls)) (Ht (ig ls)) ls[i])]]) (osz:=some 1) ?_ ?_ rfl rfl ?_ (by simp) ?_
   ·simp only[go_sem,aa];exact acc.mono (by simp[aj]) (by simp[aj])
   ·simp only[go_sem,aa,qh];rfl
   ·simp only[ag,cj,du,er];omega
   intro s3 g;have Hg:=g.acc (by simp);rw[g.tmp,cu]at Hg;simp only[gd]at Hg;have gv1:=g.av 1 (by simp[]);have gv2:=g.av 2 (by simp[]);have gv7:=g.av 7 (by simp[]);have gv8:=g.av 8 (by simp[])
   have gb1:s3.dc 1=s2.dc 1:=by rw[g.dc];simp[aj]
   have gb2:s3.dc 2=s2.dc 2:=by rw[g.dc];simp[aj]
   have gb7:s3.dc 7=s2.dc 7:=by rw[g.dc];simp[aj]
   have gb8:s3.dc 8=s2.dc 8:=by rw[g.dc];simp[aj]
   simp only[aj,aa,reduceIte]at gv1 gv2 gv7 gv8;simp only[go_sem,aa,reduceCtorEq,g.tmp,g.base,f1,b1,f2,b2,f7,b7,f8,b8,f54,f55,f56,gv1,gv2,gv7,gv8,gb1,gb2,gb7,gb8,wi,dq,hot,fl];exact⟨by rw[lz];rfl,Hg.mono rfl rfl⟩
  have:i=ls.length:=by omega
  subst this
  have hol:(Cn ls).length=ls.length:=by unfold Cn;simp
  rw[←hol,eh]at acc;simp only[go_sem,aa,reduceCtorEq,eb,f2,b2,f7,b7,f55,f56,hlt];exact acc.mono rfl rfl
 clear eb f1 b1 f2 b2;rintro s2 ⟨eb,f2,b2,f7,b7,acc⟩
 have hol:(Cn ls).length=ls.length:=by unfold Cn;simp
 have hbl:∀l∈Cn ls,l.length≤2^20:=fun l hl=>by
  unfold Cn at hl;obtain⟨l',hl',rfl⟩:=gr.1 hl;unfold Ki;rw[Mr];have:=Yp hl';exact ij (Dg _ _) (by omega)
 obtain⟨_,_,k3,k4⟩:=Sv hcl (ig ls).length (ay _);have aEn:(Hy ls).length≤60:=ij k3 hel;have hsl:=(Bb (Cn ls)).length_eq;have hsc:=(Bb (Hy ls)).length_eq;have hEq:=aev A (xh (Cn ls)) (xh (Hy ls)) (by omega) (by omega) (fun l hl=>ij (hbl l ((Bb _).mem_iff.1 hl)) (by omega)) (fun l hl=>ij (k4 l ((Bb _).mem_iff.1 hl)) (by omega));rcases acc with ⟨h0,_⟩|⟨_,f9,b65⟩
 ·exact absurd (by simpa[Cn]using h0) hl0
 simp only[go_sem]
 refine af3 (fun s3=>s3.base=0∧s3.tmp 2= .ie 2 (s3.av 2) 0∧s3.dc 2=some (.loc [.d .ck])∧s3.tmp 7= .ie 7 (s3.av 7) 0∧s3.dc 7=some (.loc [.d (.gz 1 ((xh (Hy ls)).map fun l=>[xf l]))])∧
  s3.tmp 72= .d (.bool (!decide (xh (Cn ls)=xh (Hy ls))))) ?_ ?_
 ·have hso:=fun m hb=>aek A L hρ (Cn ls) (by omega) hbl (m:=m) (id:=65) (av:=s2.av 65) hb;simp only[ag]at f9;simp only[ahr,go_sem,aa,eb,f7,b7,f9]
  repeat' apply aLt
  all_goals
   refine lr (hso _ ?_ rfl 1000) ?_
   ·exact b65
   simp only[go_sem,aa,PS.j6,PS.mem,V3,f7,b7];refine jr (ds:=[ku (xh (Cn ls)),ku (xh (Hy ls)),.oq A.j0 []]) ?_ hEq rfl ?_
   ·simp only[go_sem,ag,hsl,ku]
   simp only[go_sem,aa,f2,b2,f7,b7]
 clear eb f2 b2 f7 b7 f9 b65;rintro s3 ⟨eb,f2,b2,f7,b7,f72⟩;cases hd:decide (xh (Cn ls)=xh (Hy ls))
 ·rw[hd]at f72 hpB;rw[hpB];simp only[go_sem,aa,eb,f2,b2,f72]
 rw[hd]at f72 hpB;rw[hpB];simp only[go_sem,aa,eb,f2,b2,f7,b7,f72]
theorem a5g(ls:List (List Sp)):(a0w ls).one=true:=by unfold a0w;split<;>rfl
theorem ac2(L:a89 P ρ)(hρ:ρ.f 6=A.ee):Lp A.toPr ot:=by
 intro ls h1 h2;have hr:=ar4 A L hρ ls h1 h2;refine ec A.mo A.a3c (by simp) ?_;show kq P (N6 A.x7) (mb _ _) _;have eL:ku ls= .gz 1 (ls.map fun l=>[xf l]):=rfl;rw[eL]at hr⊢;have ho:=a5g ls;generalize a0w ls=X at hr ho;simp only[N6,go_sem,aa];refine ft hr ?_;cases hp:ot ls
 ·simp only[go_sem,aa]
 cases X<;>first|(cases ho;done)|simp only[go_sem,aa]
end
end Go.PI
namespace Go.PI
def ae7(p q:Sp):Int:=if(p.1≤0∧0<q.1)∧fj p q<0 then-1 else if(q.1≤0∧0<p.1)∧0<fj p q then 1 else 0
def ac0(p q:Sp):Int:=if(0<p.2↔0<q.2)then 0 else if(0<fj p q↔p.2<q.2)then(if p.2<q.2 then 1 else-1)else 0
def a8l(p:Sp):Int:=if 0<p.1∧0<p.2 then 1 else 0
def a8o(p:Sp):Int:=if p.2=0∧0<p.1 then 1 else 0
def Sg(x s:Int):Prop:=(s= -1∧x<0)∨(s=0∧x=0)∨(s=1∧0<x)
theorem Ks(x:Int):∃s,Sg x s:=by
 rcases aFv x 0 with h|h|h
 ·exact⟨-1,.inl ⟨rfl,h⟩⟩
 ·exact⟨0,.inr (.inl ⟨rfl,h⟩)⟩
 exact⟨1,.inr (.inr ⟨rfl,h⟩)⟩
theorem Eh{x y s t:Int}(h1:Sg x s)(h2:Sg y t):Sg (x*y) (s*t):=by
 rcases h1 with ⟨rfl,h1⟩|⟨rfl,h1⟩|⟨rfl,h1⟩<;>rcases h2 with ⟨rfl,h2⟩|⟨rfl,h2⟩|⟨rfl,h2⟩
 ·exact .inr (.inr ⟨rfl,ab3 h1 h2⟩)
 ·exact .inr (.inl ⟨rfl,by rw[h2,aKd]⟩)
 ·exact .inl ⟨rfl,ab4 h1 h2⟩
 ·exact .inr (.inl ⟨rfl,by rw[h1,amx]⟩)
 ·exact .inr (.inl ⟨rfl,by rw[h1,amx]⟩)
 ·exact .inr (.inl ⟨rfl,by rw[h1,amx]⟩)
 ·exact .inl ⟨rfl,Int.mul_neg_of_pos_of_neg h1 h2⟩
 ·exact .inr (.inl ⟨rfl,by rw[h2,aKd]⟩)
 exact .inr (.inr ⟨rfl,Jc h1 h2⟩)
theorem S5{x:Int}(h:Sg x 1):0<x:=by unfold Sg at h;omega
theorem S6{x:Int}(h:Sg x (-1)):x<0:=by unfold Sg at h;omega
theorem S4{x:Int}(h:Sg x 0):x=0:=by unfold Sg at h;omega
theorem awv(p q:Sp)(h:fj p q=0→0<p.1*q.1+p.2*q.2):ac0 p q-ae7 p q=a8l q-a8l p:=by
 obtain⟨a,b⟩:=p;obtain⟨c,d⟩:=q;unfold ac0 ae7 a8l;unfold fj at h⊢;simp only at h⊢;obtain⟨sa,ha⟩:=Ks a;obtain⟨sb,hb⟩:=Ks b;obtain⟨sc,hc⟩:=Ks c;obtain⟨sd,hd⟩:=Ks d;have m1:=Eh ha hd;have m2:=Eh hb hc;have m3:=Eh ha hc;have m4:=Eh hb hd
 generalize a*d=X at*
 generalize b*c=Y at*
 generalize a*c=Z at*
 generalize b*d=W at*
 rcases ha with ⟨rfl,ha⟩|⟨rfl,ha⟩|⟨rfl,ha⟩<;>rcases hb with ⟨rfl,hb⟩|⟨rfl,hb⟩|⟨rfl,hb⟩<;>rcases hc with ⟨rfl,hc⟩|⟨rfl,hc⟩|⟨rfl,hc⟩<;>rcases hd with ⟨rfl,hd⟩|⟨rfl,hd⟩|⟨rfl,hd⟩<;>
  (first|replace m1:=S5 m1|replace m1:=S6 m1|replace m1:=S4 m1)<;>(first|replace m2:=S5 m2|replace m2:=S6 m2|replace m2:=S4 m2)<;>(first|replace m3:=S5 m3|replace m3:=S6 m3|replace m3:=S4 m3)<;>(first|replace m4:=S5 m4|replace m4:=S6 m4|replace m4:=S4 m4)<;>
  (repeat' split)<;>omega
theorem aiq(p q:Sp)(h:fj p q=0→0<p.1*q.1+p.2*q.2): -(ac0 (p.2,p.1) (q.2,q.1))=ae7 p q:=by
 obtain⟨a,b⟩:=p;obtain⟨c,d⟩:=q;unfold ac0 ae7;unfold fj at h⊢;simp only at h⊢;obtain⟨sa,ha⟩:=Ks a;obtain⟨sb,hb⟩:=Ks b;obtain⟨sc,hc⟩:=Ks c;obtain⟨sd,hd⟩:=Ks d;have m1:=Eh ha hd;have m2:=Eh hb hc;have m3:=Eh ha hc;have m4:=Eh hb hd
 generalize a*d=X at*
 generalize b*c=Y at*
 generalize a*c=Z at*
 generalize b*d=W at*
 rcases ha with ⟨rfl,ha⟩|⟨rfl,ha⟩|⟨rfl,ha⟩<;>rcases hb with ⟨rfl,hb⟩|⟨rfl,hb⟩|⟨rfl,hb⟩<;>rcases hc with ⟨rfl,hc⟩|⟨rfl,hc⟩|⟨rfl,hc⟩<;>rcases hd with ⟨rfl,hd⟩|⟨rfl,hd⟩|⟨rfl,hd⟩<;>
  (first|replace m1:=S5 m1|replace m1:=S6 m1|replace m1:=S4 m1)<;>(first|replace m2:=S5 m2|replace m2:=S6 m2|replace m2:=S4 m2)<;>(first|replace m3:=S5 m3|replace m3:=S6 m3|replace m3:=S4 m3)<;>(first|replace m4:=S5 m4|replace m4:=S6 m4|replace m4:=S4 m4)<;>
  (repeat' split)<;>omega
theorem as0(p q:Sp)(h:fj p q=0→0<p.1*q.1+p.2*q.2):ac0 p q-ae7 (-p.2,p.1) (-q.2,q.1)=a8o p-a8o q:=by
 obtain⟨a,b⟩:=p;obtain⟨c,d⟩:=q;unfold ac0 ae7 a8o;unfold fj at h⊢;simp only at h⊢;obtain⟨sa,ha⟩:=Ks a;obtain⟨sb,hb⟩:=Ks b;obtain⟨sc,hc⟩:=Ks c;obtain⟨sd,hd⟩:=Ks d;have m1:=Eh ha hd;have m2:=Eh hb hc;have m3:=Eh ha hc;have m4:=Eh hb hd;have e1: -b*c= -(b*c):=aLb ..;have e2:a* -d= -(a*d):=aLc ..;rw[e1,e2];clear e1 e2
 generalize a*d=X at*
 generalize b*c=Y at*
 generalize a*c=Z at*
 generalize b*d=W at*
 rcases ha with ⟨rfl,ha⟩|⟨rfl,ha⟩|⟨rfl,ha⟩<;>rcases hb with ⟨rfl,hb⟩|⟨rfl,hb⟩|⟨rfl,hb⟩<;>rcases hc with ⟨rfl,hc⟩|⟨rfl,hc⟩|⟨rfl,hc⟩<;>rcases hd with ⟨rfl,hd⟩|⟨rfl,hd⟩|⟨rfl,hd⟩<;>
  (first|replace m1:=S5 m1|replace m1:=S6 m1|replace m1:=S4 m1)<;>(first|replace m2:=S5 m2|replace m2:=S6 m2|replace m2:=S4 m2)<;>(first|replace m3:=S5 m3|replace m3:=S6 m3|replace m3:=S4 m3)<;>(first|replace m4:=S5 m4|replace m4:=S6 m4|replace m4:=S4 m4)<;>
  (repeat' split)<;>omega
def rel(m p:Sp):Sp:=(2*p.1-m.1,2*p.2-m.2)
theorem Zp(m:Sp)(f:Ed):Jd m f=ae7 (rel m f.1) (rel m f.2):=by
 have e:j7 (dbl f.1) (dbl f.2) m=fj (rel m f.1) (rel m f.2):=by
  unfold j7 dbl fj rel;simp only[Int.sub_mul,Int.mul_sub];have h1:=Ag (2*f.2.2) m.1;have h2:=Ag (2*f.1.2) m.1;have h3:=Ag (2*f.1.2) (2*f.2.1);have h4:=Ag (2*f.1.2) (2*f.1.1);have h5:=Ag (2*f.2.2) (2*f.1.1);have h6:=Ag m.2 (2*f.2.1);have h7:=Ag m.2 m.1;omega
 unfold Jd ae7;rw[e];simp only[rel]
 congr 1
 ·rw[eq_iff_iff];constructor<;>rintro⟨⟨h1,h2⟩,h3⟩<;>exact⟨⟨by omega,by omega⟩,h3⟩
 congr 1
 rw[eq_iff_iff];constructor<;>rintro⟨⟨h1,h2⟩,h3⟩<;>exact⟨⟨by omega,by omega⟩,h3⟩
theorem Xw(sw:Bool)(m:Sp)(f:Ed):a2q sw m f=ac0 (seen sw m f.1) (seen sw m f.2):=by
 unfold a2q ac0;generalize seen sw m f.1=p;generalize seen sw m f.2=q;by_cases h1:0<p.2<;>by_cases h2:0<q.2<;>by_cases h3:0<fj p q<;>by_cases h4:p.2<q.2<;>simp[h1,h2,h3,h4]
theorem abh(m p:Sp):seen false m p=rel m p:=rfl
theorem aqz(m p:Sp):seen true m p=((rel m p).2,(rel m p).1):=rfl
theorem af2(e:Ed)(p:Sp):rel (ui (Ba e)) (-p.2,p.1)=(-(rel (ui e) p).2,(rel (ui e) p).1):=by
 unfold rel ui Ba;refine R1 ?_ ?_
 ·show 2* -p.2-(-e.1.2+ -e.2.2)= -(2*p.2-(e.1.2+e.2.2));omega
 rfl
theorem Zt(f g:Nat→Int):∀n,pq f n-pq g n=pq (fun k=>f k-g k) n:=by
 intro n
 induction n with
 |zero=>rfl
 |succ n ih=>simp only[pq];rw[←ih];omega
theorem a9p(f:Nat→Int):∀n,-(pq f n)=pq (fun k=> -(f k)) n:=by
 intro n
 induction n with
 |zero=>rfl
 |succ n ih=>simp only[pq];rw[←ih];omega
theorem Ma{f g:Nat→Int}:∀n,(∀k,k<n→f k=g k)→pq f n=pq g n:=by
 intro n
 induction n with
 |zero=>intro _;rfl
 |succ n ih=>intro h;simp only[pq];rw[ih fun k hk=>h k (by omega),h n (by omega)]
theorem an9(f:Nat→Int)(i:Nat):∀n,i<n→pq (fun k=>if k=i then 0 else f k) n=pq f n-f i:=by
 intro n
 induction n with
 |zero=>intro h;omega
 |succ n ih=>
  intro h;simp only[pq];by_cases e:n=i
  ·subst e;rw[bd rfl,Ma n (fun k hk=>al (by omega))];omega
  rw[al e,ih (by omega)];omega
def a8f(g:Ed→Int)(l:List Ed):Int:=(l.map g).sum
theorem a4k(g:Ed→Int)(l:List Ed):pq (fun k=>g (l.getD k e0)) l.length=a8f g l:=by
 have:∀n,n≤l.length→pq (fun k=>g (l.getD k e0)) n=a8f g (l.take n):=by
  intro n
  induction n with
  |zero=>intro _;rfl
  |succ n ih=>
   intro h;simp only[pq,ih (by omega)];unfold a8f;rw[gl,fl,aJm];have:l[n]? =some l[n]:=ax (by omega);simp[cw,this]
 rw[this _ (ay _),eh]
theorem an7(g:Sp→Int)(l:List Sp):a8f (fun e=>g e.2-g e.1) (jg l)=0:=by
 have e1:a8f (fun e=>g e.2-g e.1) (jg l)=pq (fun k=>g (l.getD ((k+1)%l.length) (0,0))-g (l.getD k (0,0))) l.length:=by
  rw[←a4k,xl];refine Ma _ fun k hk=>?_
  have:(jg l).getD k e0=B8 l k:=by
   unfold jg;simp[cw,hk]
  rw[this];rfl
 rw[e1,←Zt]
 cases hl:l.length with
 |zero=>rfl
 |succ n=>
  have a1:∀m,m≤n→pq (fun k=>g (l.getD ((k+1)%(n+1)) (0,0))) m=pq (fun k=>g (l.getD k (0,0))) (m+1)-g (l.getD 0 (0,0)):=by
   intro m
   induction m with
   |zero=>intro _;simp only[pq];omega
   |succ m ih=>
    intro hm;simp only[pq]at ih⊢;rw[ih (by omega),aaw (show m+1<n+1 by omega)];omega
  have a2:=a1 n (ay _);simp only[pq]at a2⊢;rw[a2,Nat.mod_self];omega
theorem aeb(g:Ed→Int)(a b:List Ed):a8f g (a++b)=a8f g a+a8f g b:=by unfold a8f;rw[fl,aJm]
theorem aFz(g:Sp→Int)(ls:List (List Sp)):a8f (fun e=>g e.2-g e.1) (ig ls)=0:=by
 induction ls with
 |nil=>rfl
 |cons l r ih=>
  have:ig (l::r)=jg l++ig r:=by unfold ig;rw[avg]
  rw[this,aeb,ih,an7];rfl
def amk(es:List Ed)(i:Nat):Prop:=∀k,k<es.length→k≠i→fj (rel (ui (es.getD i e0)) (es.getD k e0).1) (rel (ui (es.getD i e0)) (es.getD k e0).2)=0→
 0<(rel (ui (es.getD i e0)) (es.getD k e0).1).1*(rel (ui (es.getD i e0)) (es.getD k e0).2).1+(rel (ui (es.getD i e0)) (es.getD k e0).1).2*(rel (ui (es.getD i e0)) (es.getD k e0).2).2
theorem Qx(es:List Ed)(k:Nat):(es.map Ba).getD k e0=Ba (es.getD k e0):=by
 simp only[cw,cy]
 cases es[k]? with
 |none=>simp[Ba,e0]
 |some e=>rfl
theorem auv{ls:List (List Sp)}(g:Sp→Int){i:Nat}(hi:i<(ig ls).length):
  pq (fun k=>if k=i then 0 else g ((ig ls).getD k e0).2-g ((ig ls).getD k e0).1) (ig ls).length=g ((ig ls).getD i e0).1-g ((ig ls).getD i e0).2:=by
 rw[an9 (fun k=>g ((ig ls).getD k e0).2-g ((ig ls).getD k e0).1) i _ hi,a4k (fun e=>g e.2-g e.1),aFz];omega
theorem aoz{ls:List (List Sp)}{i:Nat}(hi:i<(ig ls).length)(hf:amk (ig ls) i)(hne:((ig ls).getD i e0).1≠((ig ls).getD i e0).2):Ys (ig ls) i=Wd (ig ls) i:=by
 have hb:=fun g=>auv (ls:=ls) g hi
 generalize ig ls=es at*
 have hw:∀sw k,k<es.length→(if k=i then(0:Int)else a2q sw (ui (es.getD i e0)) (es.getD k e0))=if k=i then 0 else ac0 (seen sw (ui (es.getD i e0)) (es.getD k e0).1) (seen sw (ui (es.getD i e0)) (es.getD k e0).2):=fun sw k _=>by rw[Xw]
 unfold Ys Wd;by_cases hv:(es.getD i e0).1.1=(es.getD i e0).2.1
 ·have hsw:swE (es.getD i e0)=false:=by
   unfold swE;simp only[beq_eq_false_iff_ne];intro h;exact hne (R1 hv h)
  rw[bd hv,hsw];unfold X5;rw[ag,Qx];have hg:=hb fun p=>a8o (rel (ui (es.getD i e0)) p)
  have a2u:pq (wAt es i) es.length-pq (Ws (es.map Ba) i) es.length=pq (fun k=> -(if k=i then 0 else a8o (rel (ui (es.getD i e0)) (es.getD k e0).2)-a8o (rel (ui (es.getD i e0)) (es.getD k e0).1))) es.length:=by
   rw[Zt];refine Ma _ fun k hk=>?_;unfold wAt Ws;rw[hsw,Qx,Qx];by_cases e:k=i
   ·simp only[e,cz];rfl
   simp only[al e];rw[Xw,Zp,abh,abh];have:=as0 _ _ (hf k hk e);have t1:rel (ui (Ba (es.getD i e0))) (Ba (es.getD k e0)).1=(-(rel (ui (es.getD i e0)) (es.getD k e0).1).2,(rel (ui (es.getD i e0)) (es.getD k e0).1).1):=af2 _ _;have t2:rel (ui (Ba (es.getD i e0))) (Ba (es.getD k e0)).2=(-(rel (ui (es.getD i e0)) (es.getD k e0).2).2,(rel (ui (es.getD i e0)) (es.getD k e0).2).1):=af2 _ _;rw[t1,t2];omega
  rw[←a9p,hg]at a2u
  have z1:a8o (rel (ui (es.getD i e0)) (es.getD i e0).1)=0:=by
   unfold a8o rel ui;rw[al];simp only;omega
  have z2:a8o (rel (ui (es.getD i e0)) (es.getD i e0).2)=0:=by
   unfold a8o rel ui;rw[al];simp only;omega
  rw[z1,z2]at a2u
  have aEe:(if(decide ((vw false (es.getD i e0).1).2<(vw false (es.getD i e0).2).2)== !false)=true then(1:Int)else 0)=if(Ba (es.getD i e0)).2.1<(Ba (es.getD i e0)).1.1 then 1 else 0:=by
   have:(Ba (es.getD i e0)).2.1<(Ba (es.getD i e0)).1.1↔(es.getD i e0).1.2<(es.getD i e0).2.2:=by
    show-(es.getD i e0).2.2< -(es.getD i e0).1.2↔_;omega
   simp only[vw,this];by_cases h:(es.getD i e0).1.2<(es.getD i e0).2.2<;>simp[]
  rw[aEe];simp only[fw,bn];omega
 rw[al hv];unfold X5;cases hsw:swE (es.getD i e0)
 ·have hh:(es.getD i e0).1.2≠(es.getD i e0).2.2:=by
   unfold swE at hsw;simpa using hsw
  have hg:=hb fun p=>a8l (rel (ui (es.getD i e0)) p)
  have a2u:pq (wAt es i) es.length-pq (Ws es i) es.length=pq (fun k=>(if k=i then 0 else a8l (rel (ui (es.getD i e0)) (es.getD k e0).2)-a8l (rel (ui (es.getD i e0)) (es.getD k e0).1))) es.length:=by
   rw[Zt];refine Ma _ fun k hk=>?_;unfold wAt Ws;rw[hsw];by_cases e:k=i
   ·simp only[e,cz];rfl
   simp only[al e];rw[Xw,Zp,abh,abh];exact awv _ _ (hf k hk e)
  rw[hg]at a2u;simp only[fw,bn,vw]
  have q1:a8l (rel (ui (es.getD i e0)) (es.getD i e0).1)=if(es.getD i e0).2.1<(es.getD i e0).1.1∧(es.getD i e0).2.2<(es.getD i e0).1.2 then 1 else 0:=by
   unfold a8l rel ui;simp only
   congr 1
   rw[eq_iff_iff];omega
  have q2:a8l (rel (ui (es.getD i e0)) (es.getD i e0).2)=if(es.getD i e0).1.1<(es.getD i e0).2.1∧(es.getD i e0).1.2<(es.getD i e0).2.2 then 1 else 0:=by
   unfold a8l rel ui;simp only
   congr 1
   rw[eq_iff_iff];omega
  rw[q1,q2]at a2u;by_cases h1:(es.getD i e0).1.1<(es.getD i e0).2.1<;>by_cases h2:(es.getD i e0).1.2<(es.getD i e0).2.2
  ·have g1:¬(es.getD i e0).2.1<(es.getD i e0).1.1:=by omega
   simp only[h1,h2,g1,decide_true,and_self,false_and,cz,bn,M7,fg]at a2u⊢;omega
  ·have g1:¬(es.getD i e0).2.1<(es.getD i e0).1.1:=by omega
   simp only[h1,h2,g1,decide_false,and_false,false_and,bn,M7]at a2u⊢;simp;omega
  ·have g1:(es.getD i e0).2.1<(es.getD i e0).1.1:=by omega
   have g2:¬(es.getD i e0).2.2<(es.getD i e0).1.2:=by omega
   simp only[h1,h2,g1,g2,decide_true,and_true,and_false,cz,bn,M7,fg]at a2u⊢;omega
  have g1:(es.getD i e0).2.1<(es.getD i e0).1.1:=by omega
  have g2:(es.getD i e0).2.2<(es.getD i e0).1.2:=by omega
  simp only[h1,h2,g1,g2,decide_false,and_self,cz,bn,M7]at a2u⊢;simp;omega
 have a2u: -(pq (wAt es i) es.length)=pq (Ws es i) es.length:=by
  rw[a9p];refine Ma _ fun k hk=>?_;unfold wAt Ws;rw[hsw];by_cases e:k=i
  ·simp only[e,cz];rfl
  simp only[al e];rw[Xw,Zp,aqz,aqz];exact aiq _ _ (hf k hk e)
 simp only[cz,a2u,vw,aFr];by_cases h1:(es.getD i e0).1.1<(es.getD i e0).2.1
 ·have g1:¬(es.getD i e0).2.1<(es.getD i e0).1.1:=by omega
  rw[decide_eq_true h1,al (show¬(((true:Bool)==false)=true)by decide),al g1]
 have g1:(es.getD i e0).2.1<(es.getD i e0).1.1:=by omega
 rw[decide_eq_false h1,bd (show(((false:Bool)==false)=true)by decide),bd g1]
theorem ax3(u v:Sp)(h:fj u v=0)(hd:u.1*v.1+u.2*v.2<0):((u.1≤0∧0≤v.1)∨(v.1≤0∧0≤u.1))∧((u.2≤0∧0≤v.2)∨(v.2≤0∧0≤u.2)):=by
 obtain⟨a,b⟩:=u;obtain⟨c,d⟩:=v;unfold fj at h;simp only at h hd⊢;obtain⟨sa,ha⟩:=Ks a;obtain⟨sb,hb⟩:=Ks b;obtain⟨sc,hc⟩:=Ks c;obtain⟨sd,hd'⟩:=Ks d;have m1:=Eh ha hd';have m2:=Eh hb hc;have m3:=Eh ha hc;have m4:=Eh hb hd'
 generalize a*d=X at*
 generalize b*c=Y at*
 generalize a*c=Z at*
 generalize b*d=W at*
 rcases ha with ⟨rfl,ha⟩|⟨rfl,ha⟩|⟨rfl,ha⟩<;>rcases hb with ⟨rfl,hb⟩|⟨rfl,hb⟩|⟨rfl,hb⟩<;>rcases hc with ⟨rfl,hc⟩|⟨rfl,hc⟩|⟨rfl,hc⟩<;>rcases hd' with ⟨rfl,hd'⟩|⟨rfl,hd'⟩|⟨rfl,hd'⟩<;>
  (first|replace m1:=S5 m1|replace m1:=S6 m1|replace m1:=S4 m1)<;>(first|replace m2:=S5 m2|replace m2:=S6 m2|replace m2:=S4 m2)<;>(first|replace m3:=S5 m3|replace m3:=S6 m3|replace m3:=S4 m3)<;>(first|replace m4:=S5 m4|replace m4:=S6 m4|replace m4:=S4 m4)<;>
  omega
theorem apx(a b p:Sp):j7 a b p=fj (lp a p) (lp b p):=by
 unfold j7 fj lp;simp only[Int.sub_mul,Int.mul_sub];have h1:=Ag b.1 p.2;have h2:=Ag b.2 p.1;have h3:=Ag a.1 p.2;have h4:=Ag a.2 p.1;have h5:=Ag a.1 b.2;have h6:=Ag a.2 b.1;have h7:=Ag p.1 p.2;have h8:=Ag a.1 a.2;omega
theorem aC8{e:Ed}{p:Sp}(h:agc e p=true):onB e p=true∧p≠e.1∧p≠e.2:=by
 unfold agc at h;simp only[da,beq_iff_eq,decide_eq_true_eq]at h;obtain⟨h1,h2⟩:=h;have hb:=ax3 (lp e.1 p) (lp e.2 p) h1 h2;refine⟨?_,?_,?_⟩
 ·unfold onB;simp only[da,beq_iff_eq,decide_eq_true_eq];refine⟨by rw[apx];exact h1,?_⟩;simp only[lp]at hb;unfold mn mx;refine⟨?_,?_,?_,?_⟩<;>split<;>omega
 ·rintro rfl;simp at h2
 rintro rfl;simp at h2
theorem Bj{es:List Ed}(h:Gi es=true){i:Nat}(hi:i<es.length):(es.getD i e0).1≠(es.getD i e0).2∧∀k,k<es.length→a0f (es.getD i e0) (es.getD k e0)=false∧Xk i k (es.getD i e0) (es.getD k e0)=false:=by
 unfold Gi at h;have h1:=dj.1 h i (ez.2 hi);unfold Up at h1;simp only[da,qp]at h1;refine⟨fun q=>?_,fun k hk=>?_⟩
 ·have:=h1.1;rw[zb.2 q]at this;cases this
 have:=dj.1 h1.2 k (ez.2 hk);simpa using this
theorem ane{es:List Ed}(h:Gi es=true):S3 es=true:=by
 unfold S3;rw[da];refine⟨dj.2 fun i hi=>?_,dj.2 fun i hi=>dj.2 fun k hk=>?_⟩
 ·have hi:=ez.1 hi;obtain⟨h1,h2⟩:=Bj h hi
  have get:∀f,f∈es.take i→∃k,k<i∧k<es.length∧es.getD k e0=f:=fun f hf=>by
   obtain⟨k,hk,rfl⟩:=gf.1 hf;simp only[er]at hk;refine⟨k,by omega,by omega,?_⟩;simp[cw,show k<es.length by omega]
  unfold a4o;simp only[da,qp];refine⟨?_,?_,?_⟩
  ·cases hs:ux (es.getD i e0).1 (es.getD i e0).2
   ·rfl
   exact absurd (zb.1 hs) h1
  ·cases hm:Ni (es.take i) (es.getD i e0)
   ·rfl
   obtain⟨k,hk,hkl,he⟩:=get _ (Mi.1 hm);have:=(h2 k hkl).2;rw[he]at this;unfold Xk at this;rw[decide_eq_true (show i≠k by omega)]at this;simp[a3m]at this
  cases hm:Ni (es.take i) (abv (es.getD i e0))
  ·rfl
  obtain⟨k,hk,hkl,he⟩:=get _ (Mi.1 hm);have:=(h2 k hkl).2;rw[he]at this;unfold Xk at this;rw[decide_eq_true (show i≠k by omega)]at this;simp[abv,ux]at this
 have hi:=ez.1 hi;have hk:=ez.1 hk;obtain⟨h1,h2⟩:=Bj h hi;have h3:=(h2 k hk).1;unfold a0f at h3;rw[S0]at h3;unfold a1f;simp only[da,qp];refine⟨?_,?_⟩
 ·cases hh:agc (es.getD i e0) (es.getD k e0).1
  ·rfl
  obtain⟨k1,k2,k3⟩:=aC8 hh;have:=h3.1;rw[k1]at this
  have n1:ux (es.getD k e0).1 (es.getD i e0).1=false:=by
   cases q:ux (es.getD k e0).1 (es.getD i e0).1
   ·rfl
   exact absurd (zb.1 q) k2
  have n2:ux (es.getD k e0).1 (es.getD i e0).2=false:=by
   cases q:ux (es.getD k e0).1 (es.getD i e0).2
   ·rfl
   exact absurd (zb.1 q) k3
  rw[n1,n2]at this;cases this
 rw[h3.2,qq]
theorem ast(a b A:Sp):2*j7 a b A=fj (lp b a) (rel (a.1+b.1,a.2+b.2) A):=by
 unfold j7 fj lp rel;simp only
 grind
theorem aDu(a b A B:Sp):4*j7 A B a=fj (lp b a) (rel (a.1+b.1,a.2+b.2) B)-fj (lp b a) (rel (a.1+b.1,a.2+b.2) A)+fj (rel (a.1+b.1,a.2+b.2) A) (rel (a.1+b.1,a.2+b.2) B):=by
 unfold j7 fj lp rel;simp only
 grind
theorem aDt(a b A B:Sp):4*j7 A B b=fj (lp b a) (rel (a.1+b.1,a.2+b.2) A)-fj (lp b a) (rel (a.1+b.1,a.2+b.2) B)+fj (rel (a.1+b.1,a.2+b.2) A) (rel (a.1+b.1,a.2+b.2) B):=by
 unfold j7 fj lp rel;simp only
 grind
theorem plu(d p q:Sp)(h:fj p q=0):fj d p*q.1=fj d q*p.1∧fj d p*q.2=fj d q*p.2:=by
 unfold fj at*
 constructor<;>grind
theorem ale{X Y p q:Int}(hX:0<X)(hY:0<Y)(h:X*q=Y*p):(p=0∧q=0)∨0<p*q:=by
 obtain⟨s,hs⟩:=Ks p;obtain⟨t,ht⟩:=Ks q;have m1:=Eh (x:=X) (s:=1) (.inr (.inr ⟨rfl,hX⟩)) ht;have m2:=Eh (x:=Y) (s:=1) (.inr (.inr ⟨rfl,hY⟩)) hs;have m3:=Eh hs ht;rw[h]at m1
 generalize Y*p=Z at*
 generalize p*q=W at*
 rcases hs with ⟨rfl,hs⟩|⟨rfl,hs⟩|⟨rfl,hs⟩<;>rcases ht with ⟨rfl,ht⟩|⟨rfl,ht⟩|⟨rfl,ht⟩<;>
  (first|replace m1:=S5 m1|replace m1:=S6 m1|replace m1:=S4 m1)<;>(first|replace m2:=S5 m2|replace m2:=S6 m2|replace m2:=S4 m2)<;>(first|replace m3:=S5 m3|replace m3:=S6 m3|replace m3:=S4 m3)<;>omega
theorem afo{d p q:Sp}(h:fj p q=0)(hd:p.1*q.1+p.2*q.2≤0)(h1:0<fj d p)(h2:0<fj d q):False:=by
 obtain⟨e1,e2⟩:=plu d p q h;have k1:=ale h1 h2 e1;have k2:=ale h1 h2 e2
 have z:p.1=0∧p.2=0:=by
  rcases k1 with ⟨a,b⟩|a<;>rcases k2 with ⟨c,e⟩|c
  ·exact⟨a,c⟩
  ·rw[a,amx]at hd;omega
  ·rw[c,amx]at hd;omega
  omega
 unfold fj at h1;rw[z.1,z.2]at h1;simp at h1
theorem a7i(d p:Sp):fj (-d.1,-d.2) p= -(fj d p):=by
 unfold fj;simp only
 grind
theorem aot{a b A B:Sp}(h:fj (rel (a.1+b.1,a.2+b.2) A) (rel (a.1+b.1,a.2+b.2) B)=0)
  (hd:(rel (a.1+b.1,a.2+b.2) A).1*(rel (a.1+b.1,a.2+b.2) B).1+(rel (a.1+b.1,a.2+b.2) A).2*(rel (a.1+b.1,a.2+b.2) B).2≤0)(hx:Nn (a,b) (A,B)=false):
  j7 a b A=0∨j7 a b B=0:=by
 have e1:=ast a b A;have e2:=ast a b B;have e3:=aDu a b A B;have e4:=aDt a b A B;rw[h]at e3 e4;by_cases z1:j7 a b A=0
 ·exact .inl z1
 by_cases z2:j7 a b B=0
 ·exact .inr z2
 exfalso;have n1:¬(0<j7 a b A∧0<j7 a b B):=fun⟨q1,q2⟩=>afo (d:=lp b a) h hd (by omega) (by omega);have n2:¬(j7 a b A<0∧j7 a b B<0):=fun⟨q1,q2⟩=>afo (d:=(-(lp b a).1,-(lp b a).2)) h hd (by rw[a7i];omega) (by rw[a7i];omega);unfold Nn sgn at hx;simp only at hx;rcases amy z1 with s1|s1<;>rcases amy z2 with s2|s2
 ·exact n2 ⟨s1,s2⟩
 ·have c1:j7 A B a>0:=by omega
  have c2:j7 A B b<0:=by omega
  rw[bd s1,al (show¬j7 a b B<0 by omega),bd s2,al (show¬j7 A B a<0 by omega),bd c1,bd c2]at hx;simp at hx
 ·have c1:j7 A B a<0:=by omega
  have c2:j7 A B b>0:=by omega
  rw[al (show¬j7 a b A<0 by omega),bd s1,bd s2,bd c1,al (show¬j7 A B b<0 by omega),bd c2]at hx;simp at hx
 exact n1 ⟨s1,s2⟩
theorem asp{a b A:Sp}(hne:a≠b)(h1:2*A.1=a.1+b.1)(h2:2*A.2=a.2+b.2)(h0:j7 a b A=0):onB (a,b) A=true∧A≠a∧A≠b:=by
 refine⟨?_,?_,?_⟩
 ·unfold onB mn mx;simp only[da,beq_iff_eq,decide_eq_true_eq];refine⟨h0,?_,?_,?_,?_⟩<;>split<;>omega
 ·rintro rfl;exact hne (R1 (by omega) (by omega))
 rintro rfl;exact hne (R1 (by omega) (by omega))
theorem alz{a b A B:Sp}(h:fj (rel (a.1+b.1,a.2+b.2) A) (rel (a.1+b.1,a.2+b.2) B)=0)(h1:j7 a b A=0)(h2:j7 a b B≠0):2*A.1=a.1+b.1∧2*A.2=a.2+b.2:=by
 have e1:=ast a b A;have e2:=ast a b B;obtain⟨k1,k2⟩:=plu (lp b a) _ _ h;rw[←e1,h1]at k1 k2;rw[←e2]at k1 k2;simp only[aKd,amx]at k1 k2
 have n:2*j7 a b B≠0:=by omega
 have z1:=(Cj.1 k1.symm).resolve_left n;have z2:=(Cj.1 k2.symm).resolve_left n;simp only[rel]at z1 z2;omega
theorem along{a b A:Sp}(h:j7 a b A=0):fj (lp b a) (rel (a.1+b.1,a.2+b.2) A)=0:=by
 rw[←ast,h];rfl
theorem amf{d1 d2 x1 x2:Int}(h:d1*x2=d2*x1)(a:0≤x1)(b:x1≤d1)(hd:0<d1)(g:0<d2):0≤x2∧x2≤d2:=by
 constructor
 ·have h1:0≤d1*x2:=by rw[h];exact ae0 (by omega) a
  exact avn h1 hd
 have h2:d1*x2≤d1*d2:=by rw[h,Ag d1 d2];exact Zo b (by omega)
 exact Int.le_of_mul_le_mul_left h2 hd
theorem az9{d1 d2 x1 x2:Int}(h:d1*x2=d2*x1)(hd:d1≠0)(h1:(0≤x1∧x1≤d1)∨(d1≤x1∧x1≤0)):(0≤x2∧x2≤d2)∨(d2≤x2∧x2≤0):=by
 have main:∀(e1 y1:Int),0<e1→0≤y1→y1≤e1→e1*x2=d2*y1→(0≤x2∧x2≤d2)∨(d2≤x2∧x2≤0):=by
  intro e1 y1 p1 p2 p3 he;rcases aFv d2 0 with g|g|g
  ·have:=amf (d1:=e1) (d2:= -d2) (x1:=y1) (x2:= -x2) (by rw[aLc,aLb,he]) p2 p3 p1 (by omega);omega
  ·subst g;rw[amx]at he;have:=(Cj.1 he).resolve_left (by omega);omega
  exact .inl (amf he p2 p3 p1 g)
 rcases amy hd with g|g
 ·exact main (-d1) (-x1) (by omega) (by omega) (by omega) (by rw[aLb,aLc,h])
 exact main d1 x1 g (by omega) (by omega) h
theorem aB3{a b x:Sp}(h:j7 a b x=0)(h1:(a.1≤x.1∧x.1≤b.1)∨(b.1≤x.1∧x.1≤a.1))(h2:(a.2≤x.2∧x.2≤b.2)∨(b.2≤x.2∧x.2≤a.2)):onB (a,b) x=true:=by
 unfold onB mn mx;simp only[da,beq_iff_eq,decide_eq_true_eq];refine⟨h,?_,?_,?_,?_⟩<;>split<;>omega
theorem ac4{a b x:Sp}(h:onB ((a.2,a.1),(b.2,b.1)) (x.2,x.1)=true):onB (a,b) x=true:=by
 unfold onB at*
 simp only[da,beq_iff_eq,decide_eq_true_eq]at*
 obtain⟨h0,h1,h2,h3,h4⟩:=h;refine⟨?_,h3,h4,h1,h2⟩
 have:j7 (a.2,a.1) (b.2,b.1) (x.2,x.1)= -(j7 a b x):=by
  unfold j7;simp only
  grind
 omega
theorem aci{a b x:Sp}(h:j7 a b x=0)(hn:a.1≠b.1)(h1:(a.1<x.1∧x.1<b.1)∨(b.1<x.1∧x.1<a.1)):onB (a,b) x=true∧x≠a∧x≠b:=by
 have e:(b.1-a.1)*(x.2-a.2)=(b.2-a.2)*(x.1-a.1):=by
  unfold j7 at h
  grind
 have:=az9 e (by omega) (by omega);refine⟨aB3 h (by omega) (by omega),?_,?_⟩
 ·rintro rfl;omega
 rintro rfl;omega
theorem a5s{a b A B:Sp}(hn:a.1≠b.1)(h1:j7 a b A=0)(h2:j7 a b B=0)
  (hd:(rel (a.1+b.1,a.2+b.2) A).1*(rel (a.1+b.1,a.2+b.2) B).1+(rel (a.1+b.1,a.2+b.2) A).2*(rel (a.1+b.1,a.2+b.2) B).2≤0):
  (onB (a,b) A=true∧A≠a∧A≠b)∨(onB (a,b) B=true∧B≠a∧B≠b)∨(onB (A,B) a=true∧a≠A∧a≠B)∨(onB (A,B) b=true∧b≠A∧b≠B)∨(A=a∧B=b)∨(A=b∧B=a):=by
 have k1:=along h1;have k2:=along h2;have m3:=aDu a b A B;have m4:=aDt a b A B;rw[k1,k2]at m3 m4
 have hc:fj (rel (a.1+b.1,a.2+b.2) A) (rel (a.1+b.1,a.2+b.2) B)=0:=by
  have:(b.1-a.1)*fj (rel (a.1+b.1,a.2+b.2) A) (rel (a.1+b.1,a.2+b.2) B)=0:=by
   unfold fj lp at*
   simp only at*
   grind
  exact(Cj.1 this).resolve_left (by omega)
 rw[hc]at m3 m4
 have h3:j7 A B a=0:=by omega
 have h4:j7 A B b=0:=by omega
 have hp:(rel (a.1+b.1,a.2+b.2) A).1*(rel (a.1+b.1,a.2+b.2) B).1≤0:=by
  have e:(b.1-a.1)*(b.1-a.1)*((rel (a.1+b.1,a.2+b.2) A).1*(rel (a.1+b.1,a.2+b.2) B).1+(rel (a.1+b.1,a.2+b.2) A).2*(rel (a.1+b.1,a.2+b.2) B).2)=((b.1-a.1)*(b.1-a.1)+(b.2-a.2)*(b.2-a.2))*((rel (a.1+b.1,a.2+b.2) A).1*(rel (a.1+b.1,a.2+b.2) B).1):=by
   unfold fj lp at*
   simp only at*
   grind
  have p1:0<(b.1-a.1)*(b.1-a.1):=by
   rcases amy hn with g|g
   ·exact Jc (by omega) (by omega)
   exact ab3 (by omega) (by omega)
  have p2:0≤(b.2-a.2)*(b.2-a.2):=by
   rcases aJs a.2 b.2 with g|g
   ·exact ae0 (by omega) (by omega)
   exact Dh (by omega) (by omega)
  have p3:=J9 (aIv p1) hd;rw[e]at p3;rcases Q1 0 ((rel (a.1+b.1,a.2+b.2) A).1*(rel (a.1+b.1,a.2+b.2) B).1)with g|g
  ·have:=Jc (show 0<(b.1-a.1)*(b.1-a.1)+(b.2-a.2)*(b.2-a.2)by omega) g;omega
  exact g
 have hs:((rel (a.1+b.1,a.2+b.2) A).1≤0∧0≤(rel (a.1+b.1,a.2+b.2) B).1)∨((rel (a.1+b.1,a.2+b.2) B).1≤0∧0≤(rel (a.1+b.1,a.2+b.2) A).1):=by
  generalize(rel (a.1+b.1,a.2+b.2) A).1=p at*
  generalize(rel (a.1+b.1,a.2+b.2) B).1=q at*
  rcases Q1 0 p with g|g<;>rcases Q1 0 q with g2|g2
  ·have:=Jc g g2;omega
  ·omega
  ·omega
  rcases Q1 p 0 with g3|g3<;>rcases Q1 q 0 with g4|g4
  ·have:=ab3 g3 g4;omega
  all_goals omega
 simp only[rel]at hs
 have eqs:∀{x:Sp},j7 a b x=0→x.1=a.1→x=a:=fun{x} h e=>by
  have:(b.1-a.1)*(x.2-a.2)=0:=by
   unfold j7 at h
   grind
  have:=(Cj.1 this).resolve_left (by omega);exact R1 e (by omega)
 have aEz:∀{x:Sp},j7 a b x=0→x.1=b.1→x=b:=fun{x} h e=>by
  have:(b.1-a.1)*(x.2-b.2)=0:=by
   unfold j7 at h
   grind
  have:=(Cj.1 this).resolve_left (by omega);exact R1 e (by omega)
 by_cases c1:(a.1<A.1∧A.1<b.1)∨(b.1<A.1∧A.1<a.1)
 ·exact .inl (aci h1 hn c1)
 by_cases c2:(a.1<B.1∧B.1<b.1)∨(b.1<B.1∧B.1<a.1)
 ·exact .inr (.inl (aci h2 hn c2))
 by_cases c3:(A.1<a.1∧a.1<B.1)∨(B.1<a.1∧a.1<A.1)
 ·exact .inr (.inr (.inl (aci h3 (by omega) c3)))
 by_cases c4:(A.1<b.1∧b.1<B.1)∨(B.1<b.1∧b.1<A.1)
 ·exact .inr (.inr (.inr (.inl (aci h4 (by omega) c4))))
 have:(A.1=a.1∧B.1=b.1)∨(A.1=b.1∧B.1=a.1):=by omega
 rcases this with ⟨u,v⟩|⟨u,v⟩
 ·exact .inr (.inr (.inr (.inr (.inl ⟨eqs h1 u,aEz h2 v⟩))))
 exact .inr (.inr (.inr (.inr (.inr ⟨aEz h1 u,eqs h2 v⟩))))
theorem aox{a b A B:Sp}(hne:a≠b)(h1:j7 a b A=0)(h2:j7 a b B=0)
  (hd:(rel (a.1+b.1,a.2+b.2) A).1*(rel (a.1+b.1,a.2+b.2) B).1+(rel (a.1+b.1,a.2+b.2) A).2*(rel (a.1+b.1,a.2+b.2) B).2≤0):
  (onB (a,b) A=true∧A≠a∧A≠b)∨(onB (a,b) B=true∧B≠a∧B≠b)∨(onB (A,B) a=true∧a≠A∧a≠B)∨(onB (A,B) b=true∧b≠A∧b≠B)∨(A=a∧B=b)∨(A=b∧B=a):=by
 by_cases hn:a.1=b.1
 ·have hn2:a.2≠b.2:=fun h=>hne (R1 hn h)
  have sw3:∀x y z:Sp,j7 (x.2,x.1) (y.2,y.1) (z.2,z.1)= -(j7 x y z):=fun x y z=>by
   unfold j7;simp only
   grind
  have ne:∀{x y:Sp},((x.2,x.1):Sp)≠(y.2,y.1)→x≠y:=fun{x y} h e=>h (by rw[e])
  have eq:∀{x y:Sp},((x.2,x.1):Sp)=(y.2,y.1)→x=y:=fun{x y} h=>by
   have h1:=congrArg Prod.fst h;have h2:=congrArg Prod.snd h;exact R1 h2 h1
  have:=a5s (a:=(a.2,a.1)) (b:=(b.2,b.1)) (A:=(A.2,A.1)) (B:=(B.2,B.1)) hn2 (by rw[sw3];omega) (by rw[sw3];omega) (by
   show(rel (a.1+b.1,a.2+b.2) A).2*(rel (a.1+b.1,a.2+b.2) B).2+(rel (a.1+b.1,a.2+b.2) A).1*(rel (a.1+b.1,a.2+b.2) B).1≤0
   omega)
  rcases this with ⟨p,q,r⟩|⟨p,q,r⟩|⟨p,q,r⟩|⟨p,q,r⟩|⟨p,q⟩|⟨p,q⟩
  ·exact .inl ⟨ac4 p,ne q,ne r⟩
  ·exact .inr (.inl ⟨ac4 p,ne q,ne r⟩)
  ·exact .inr (.inr (.inl ⟨ac4 p,ne q,ne r⟩))
  ·exact .inr (.inr (.inr (.inl ⟨ac4 p,ne q,ne r⟩)))
  ·exact .inr (.inr (.inr (.inr (.inl ⟨eq p,eq q⟩))))
  exact .inr (.inr (.inr (.inr (.inr ⟨eq p,eq q⟩))))
 exact a5s hn h1 h2 hd
theorem V9{e f:Ed}(h:a0f e f=false):Nn e f=false∧¬(onB e f.1=true∧f.1≠e.1∧f.1≠e.2):=by
 unfold a0f at h;rw[S0]at h;refine⟨h.2,fun⟨a,b,c⟩=>?_⟩;have:=h.1;rw[a]at this
 have n1:ux f.1 e.1=false:=by
  cases q:ux f.1 e.1
  ·rfl
  exact absurd (zb.1 q) b
 have n2:ux f.1 e.2=false:=by
  cases q:ux f.1 e.2
  ·rfl
  exact absurd (zb.1 q) c
 rw[n1,n2]at this;cases this
theorem ac6{i k:Nat}{e f:Ed}(h:Xk i k e f=false)(hn:i≠k):e≠f∧¬(e.1=f.2∧e.2=f.1):=by
 unfold Xk at h;rw[decide_eq_true hn,u9,S0]at h;refine⟨?_,fun⟨a,b⟩=>?_⟩
 ·rintro rfl;have:=h.1;simp[a3m]at this
 have:=h.2;rw[zb.2 a,zb.2 b]at this;cases this
theorem agf{es:List Ed}{k:Nat}(h:k<es.length):es.getD k e0∈es:=by
 simp only[cw,ax h,jc];exact df h
theorem Hr{es:List Ed}{e:Ed}(h:e∈es):∃k,k<es.length∧es.getD k e0=e:=by
 obtain⟨k,hk,rfl⟩:=gf.1 h;exact⟨k,hk,by simp[cw,hk]⟩
theorem asq{es:List Ed}(h:Gi es=true)(hc:Km es){i:Nat}(hi:i<es.length):amk es i:=by
 intro k hk hne h0;rcases Q1 0 ((rel (ui (es.getD i e0)) (es.getD k e0).1).1*(rel (ui (es.getD i e0)) (es.getD k e0).2).1+(rel (ui (es.getD i e0)) (es.getD k e0).1).2*(rel (ui (es.getD i e0)) (es.getD k e0).2).2)with g|g
 ·exact g
 exfalso;obtain⟨n1,hh⟩:=Bj h hi;obtain⟨n2,hh2⟩:=Bj h hk;obtain⟨x1,y1⟩:=V9 (hh k hk).1;obtain⟨d1,d2⟩:=ac6 (hh k hk).2 (by omega);obtain⟨x2,y2⟩:=V9 (hh2 i hi).1
 have z1:¬(onB (es.getD i e0) (es.getD k e0).2=true∧(es.getD k e0).2≠(es.getD i e0).1∧(es.getD k e0).2≠(es.getD i e0).2):=by
  obtain⟨f,hf,he⟩:=hc.1 _ (agf hk);obtain⟨m,hm,rfl⟩:=Hr hf;rw[←he];exact(V9 (hh m hm).1).2
 have z2:¬(onB (es.getD k e0) (es.getD i e0).2=true∧(es.getD i e0).2≠(es.getD k e0).1∧(es.getD i e0).2≠(es.getD k e0).2):=by
  obtain⟨f,hf,he⟩:=hc.1 _ (agf hi);obtain⟨m,hm,rfl⟩:=Hr hf;rw[←he];exact(V9 (hh2 m hm).1).2
 generalize es.getD i e0=e at*
 generalize es.getD k e0=f at*
 obtain⟨a,b⟩:=e;obtain⟨A,B⟩:=f;simp only[ui]at h0 g
 simp only at*
 have s:=aot h0 g x1;by_cases c1:j7 a b A=0
 ·by_cases c2:j7 a b B=0
  ·rcases aox n1 c1 c2 g with q|q|q|q|⟨q,r⟩|⟨q,r⟩
   ·exact y1 q
   ·exact z1 q
   ·exact y2 q
   ·exact z2 q
   ·exact d1 (by rw[q,r])
   exact d2 ⟨r.symm,q.symm⟩
  obtain⟨u,v⟩:=alz h0 c1 c2;exact y1 (asp n1 u v c1)
 have c2:=s.resolve_left c1
 have h0':fj (rel (a.1+b.1,a.2+b.2) B) (rel (a.1+b.1,a.2+b.2) A)=0:=by
  unfold fj at h0⊢
  grind
 obtain⟨u,v⟩:=alz h0' c2 c1;exact z1 (asp n1 u v c2)
theorem aq4{ls:List (List Sp)}(h:Gi (ig ls)=true)(hc:Km (ig ls))(hl:X4 (ig ls)=true):Sy (ig ls)=true:=by
 unfold Sy;refine dj.2 fun i hi=>?_;have D0:=ez.1 hi;have:=dj.1 hl i hi;rw[aoz D0 (asq h hc D0) (Bj h D0).1];exact this
def Ta(v:Sp):Prop:=0<v.2∨(v.2=0∧0<v.1)
def Ee(u v:Sp):Int:=u.1*v.1+u.2*v.2
def sV(s:Int)(v:Sp):Sp:=(s*v.1,s*v.2)
theorem Xa{v:Sp}(h:v≠(0,0)):∃s w,v=sV s w∧Ta w∧((s=1∧Rk v=0)∨(s= -1∧Rk v=1)):=by
 by_cases h1:0<v.2∨(v.2=0∧0<v.1)
 ·refine⟨1,v,?_,h1,.inl ⟨rfl,?_⟩⟩
  ·unfold sV;rw[Int.one_mul,Int.one_mul]
  unfold Rk;rw[bd];simpa using h1
 refine⟨-1,sV (-1) v,?_,?_,.inr ⟨rfl,?_⟩⟩
 ·unfold sV;refine R1 ?_ ?_<;>simp only<;>omega
 ·unfold Ta sV;simp only;have:¬(v.1=0∧v.2=0):=fun⟨a,b⟩=>h (R1 a b);omega
 unfold Rk;rw[al];simpa using h1
theorem Uu(s t:Int)(u v:Sp):fj (sV s u) (sV t v)=s*t*fj u v:=by
 unfold fj sV;simp only
 grind
theorem aud(s t:Int)(u v:Sp):Ee (sV s u) (sV t v)=s*t*Ee u v:=by
 unfold Ee sV;simp only
 grind
theorem Ln(u v:Sp):fj v u= -(fj u v):=by
 unfold fj
 grind
theorem tr0{u x y:Sp}(hu:Ta u)(hx:Ta x)(hy:Ta y)(h1:0≤fj u x)(h2:0≤fj x y):0≤fj u y∧(fj u y=0→fj u x=0∧fj x y=0):=by
 obtain⟨a,b⟩:=u;obtain⟨c,d⟩:=x;obtain⟨e,f⟩:=y
 have id:d*fj (a,b) (e,f)=f*fj (a,b) (c,d)+b*fj (c,d) (e,f):=by
  unfold fj;simp only
  grind
 unfold Ta at hu hx hy;simp only at hu hx hy;by_cases hd:0<d
 ·have p1:0≤f*fj (a,b) (c,d):=ae0 (by omega) h1;have p2:0≤b*fj (c,d) (e,f):=ae0 (by omega) h2;have p3:0≤fj (a,b) (e,f):=avn (a:=d) (by omega) hd;refine⟨p3,fun h0=>?_⟩;rw[h0,aKd]at id
  have q1:f*fj (a,b) (c,d)=0:=by omega
  have q2:b*fj (c,d) (e,f)=0:=by omega
  have hf:f≠0:=by
   rintro rfl;unfold fj at h2;simp only at h2;have:=Jc hd (show 0<e by omega);omega
  have r1:=(Cj.1 q1).resolve_left hf;refine⟨r1,?_⟩;by_cases hb:b=0
  ·exfalso;subst hb;unfold fj at r1;simp only at r1;have:=Jc (show 0<a by omega) hd;omega
  exact(Cj.1 q2).resolve_left hb
 have hd0:d=0:=by omega
 subst hd0
 have hc:0<c:=by omega
 unfold fj at*
 simp only at*
 by_cases hb:0<b
 ·have:=Jc hb hc;omega
 have hb0:b=0:=by omega
 subst hb0
 have ha:0<a:=by omega
 have p1:0≤a*f:=ae0 (by omega) (by omega);refine⟨by omega,fun h0=>?_⟩
 have:a*f=0:=by omega
 have:f=0:=(Cj.1 this).resolve_left (by omega);subst this;omega
theorem tr1{u x y:Sp}(hu:Ta u)(hx:Ta x)(hy:Ta y):(0≤fj u x∧0≤fj x y)→(0≤fj u y∧(fj u y=0→fj u x=0∧fj x y=0)):=fun⟨a,b⟩=>tr0 hu hx hy a b
theorem alq{u x:Sp}(hu:Ta u)(hx:Ta x)(h:fj u x=0):0<Ee u x:=by
 obtain⟨a,b⟩:=u;obtain⟨c,d⟩:=x
 unfold Ta fj Ee at*
 simp only at*
 rcases hu with hu|⟨rfl,hu⟩<;>rcases hx with hx|⟨rfl,hx⟩
 ·have p:=Jc hu hx
  have q:0≤a*c:=by
   have:0≤(a*c)*(b*d):=by
    have e:(a*c)*(b*d)=(a*d)*(a*d):=by grind
    rw[e];rcases aJs 0 (a*d)with g|g
    ·exact ae0 g g
    exact Dh g g
   exact azh this p
  omega
 ·have:=Jc hu hx;omega
 ·have:=Jc hu hx;omega
 have:=Jc hu hx;omega
def bet(u y x:Sp):Bool:=
 (decide (yz x u<0)&& !decide (yz y u<0))||(decide (yz x u<0)==decide (yz y u<0)&&decide (0<yz x y))
def ahb(c d:Int):Int:=if c<0 then 0 else if 0<c then 2 else if d<0 then 1 else 3
theorem alc(u x y:Sp):a8g u x y=if ahb (fj u x) (Ee u x)=ahb (fj u y) (Ee u y)then decide (fj x y<0)else decide (ahb (fj u x) (Ee u x)<ahb (fj u y) (Ee u y)):=rfl
theorem aCp(u y x:Sp):bet u y x=((decide (yz x u<0)&& !decide (yz y u<0))||(decide (yz x u<0)==decide (yz y u<0)&&decide (0<yz x y))):=rfl
theorem av2{u x y:Sp}(hu:u≠(0,0))(hx:x≠(0,0))(hy:y≠(0,0)):bet u y x=a8g u x y:=by
 obtain⟨su,u,rfl,hu0,hu1⟩:=Xa hu;obtain⟨sx,x,rfl,hx0,hx1⟩:=Xa hx;obtain⟨sy,y,rfl,hy0,hy1⟩:=Xa hy;have t1:=tr1 hu0 hx0 hy0;have t2:=tr1 hu0 hy0 hx0;have t3:=tr1 hx0 hu0 hy0;have t4:=tr1 hx0 hy0 hu0;have t5:=tr1 hy0 hu0 hx0;have t6:=tr1 hy0 hx0 hu0;have d1:=alq hu0 hx0;have d2:=alq hu0 hy0
 rw[Ln u x,Ln u y,Ln x y]at*
 have c1:=Uu su sx u x;have c2:=Uu su sy u y;have c3:=Uu sx sy x y;have c4:=Uu sx su x u;have c5:=Uu sy su y u;have e1:=aud su sx u x;have e2:=aud su sy u y;rw[Ln u x]at c4;rw[Ln u y]at c5;rw[aCp,alc];unfold yz
 generalize fj u x=p at*
 generalize fj u y=q at*
 generalize fj x y=r at*
 generalize Ee u x=m at*
 generalize Ee u y=n at*
 rcases hu1 with ⟨rfl,hu1⟩|⟨rfl,hu1⟩<;>rcases hx1 with ⟨rfl,hx1⟩|⟨rfl,hx1⟩<;>rcases hy1 with ⟨rfl,hy1⟩|⟨rfl,hy1⟩<;>
  (simp only[hu1,hx1,hy1,c1,c2,c3,c4,c5,e1,e2];clear hu1 hx1 hy1 c1 c2 c3 c4 c5 e1 e2 hu hx hy hu0 hx0 hy0
   rw[Td];simp only[Nr,da,decide_eq_true_eq,beq_iff_eq,qp,decide_eq_false_iff_not,decide_eq_decide,ahb];simp
   by_cases p0:p<0<;>by_cases p1:0<p<;>by_cases q0:q<0<;>by_cases q1:0<q<;>by_cases m0:0<m<;>by_cases n0:0<n<;>simp[p0,p1,q0,q1,m0,n0,show 0<m→¬m<0 by omega,show 0<n→¬n<0 by omega]<;>omega)
theorem amg{s n a c:Int}(hs:0<s)(hn:s≤n)(h:a*n=s*c):(0≤c→0≤a∧a≤c)∧(c≤0→c≤a∧a≤0):=by
 have hn0:0<n:=by omega
 refine⟨fun hc=>⟨?_,?_⟩,fun hc=>⟨?_,?_⟩⟩
 ·have:=ae0 (aIv hs) hc;rw[←h]at this;exact azh this hn0
 ·have:=Int.mul_le_mul_of_nonneg_right hn hc;rw[←h,Ag n c]at this;exact a8d this hn0
 ·have:=Int.mul_le_mul_of_nonpos_right hn hc;rw[←h,Ag n c]at this;exact a8d this hn0
 have:=J9 (aIv hs) hc;rw[←h]at this;refine a8d (a:=n) ?_ hn0;omega
theorem azj(a:Int):0≤a*a:=by
 rcases aJs 0 a with h|h
 ·exact ae0 h h
 exact Dh h h
theorem sq_pos{a b:Int}(h:¬(a=0∧b=0)):0<a*a+b*b:=by
 have h1:=azj a;have h2:=azj b;by_cases ha:a=0
 ·have hb:b≠0:=fun q=>h ⟨ha,q⟩
  have:b*b≠0:=fun q=>hb (by rcases Cj.1 q with q|q<;>exact q)
  omega
 have:a*a≠0:=fun q=>ha (by rcases Cj.1 q with q|q<;>exact q)
 omega
theorem alw{o v w:Sp}(h:fj (lp v o) (lp w o)=0)(hd:0<Ee (lp v o) (lp w o))(hn:Ee (lp v o) (lp w o)≤Ee (lp w o) (lp w o)):onB (o,w) v=true:=by
 obtain⟨ox,oy⟩:=o;obtain⟨vx,vy⟩:=v;obtain⟨wx,wy⟩:=w
 unfold fj Ee lp at*
 simp only at*
 have e1:(vx-ox)*((wx-ox)*(wx-ox)+(wy-oy)*(wy-oy))=((vx-ox)*(wx-ox)+(vy-oy)*(wy-oy))*(wx-ox):=by grind
 have e2:(vy-oy)*((wx-ox)*(wx-ox)+(wy-oy)*(wy-oy))=((vx-ox)*(wx-ox)+(vy-oy)*(wy-oy))*(wy-oy):=by grind
 have b1:=amg hd hn e1;have b2:=amg hd hn e2;unfold onB j7 mn mx;simp only[da,beq_iff_eq,decide_eq_true_eq];refine⟨by grind,?_⟩;clear e1 e2 h hd hn;rcases aJs 0 (wx-ox)with c1|c1<;>rcases aJs 0 (wy-oy)with c2|c2
 ·have q1:=b1.1 c1;have q2:=b2.1 c2;clear b1 b2;refine⟨?_,?_,?_,?_⟩<;>(try split)<;>omega
 ·have q1:=b1.1 c1;have q2:=b2.2 c2;clear b1 b2;refine⟨?_,?_,?_,?_⟩<;>(try split)<;>omega
 ·have q1:=b1.2 c1;have q2:=b2.1 c2;clear b1 b2;refine⟨?_,?_,?_,?_⟩<;>(try split)<;>omega
 have q1:=b1.2 c1;have q2:=b2.2 c2;clear b1 b2;refine⟨?_,?_,?_,?_⟩<;>(try split)<;>omega
theorem as1{o v w:Sp}(h:fj (lp v o) (lp w o)=0)(hd:0<Ee (lp v o) (lp w o)):onB (o,w) v=true∨onB (o,v) w=true:=by
 rcases aJs (Ee (lp v o) (lp w o)) (Ee (lp w o) (lp w o))with g|g
 ·exact .inl (alw h hd g)
 refine .inr (alw ?_ ?_ ?_)
 ·rw[Ln,h];rfl
 ·have:Ee (lp w o) (lp v o)=Ee (lp v o) (lp w o):=by unfold Ee;grind
  rw[this];exact hd
 generalize lp v o=x at*
 generalize lp w o=y at*
 obtain⟨a,b⟩:=x;obtain⟨c,d⟩:=y
 unfold fj Ee at*
 simp only at*
 have id:(a*c+b*d)*(a*c+b*d)=(a*a+b*b)*(c*c+d*d):=by grind
 have hc:0<c*c+d*d:=by
  refine sq_pos fun⟨p,q⟩=>?_;subst p q;omega
 have e:c*a+d*b=a*c+b*d:=by grind
 rw[e]
 generalize a*c+b*d=s at*
 generalize c*c+d*d=n at*
 generalize a*a+b*b=m at*
 rcases Q1 m s with k|k
 ·exfalso;have h1:m*n<s*n:=Int.mul_lt_mul_of_pos_right k hc;have h2:s*n≤s*s:=Zo g (by omega);omega
 exact k
theorem ahz{u x y:Sp}(hu:u≠(0,0))(hx:x≠(0,0))(hy:y≠(0,0))(hn:¬(fj x y=0∧0<Ee x y))(h:a8g u x y=false):a8g u y x=true:=by
 rw[alc]at h⊢;obtain⟨p,q⟩:=u;obtain⟨a,b⟩:=x;obtain⟨c,d⟩:=y
 have i1:fj (p,q) (a,b)*(c*c+d*d)=fj (p,q) (c,d)*Ee (a,b) (c,d)-Ee (p,q) (c,d)*fj (a,b) (c,d):=by
  unfold fj Ee;simp only;grind
 have i2:Ee (p,q) (a,b)*(c*c+d*d)=Ee (p,q) (c,d)*Ee (a,b) (c,d)+fj (p,q) (c,d)*fj (a,b) (c,d):=by
  unfold fj Ee;simp only;grind
 have i3:Ee (a,b) (c,d)*Ee (a,b) (c,d)+fj (a,b) (c,d)*fj (a,b) (c,d)=(a*a+b*b)*(c*c+d*d):=by
  unfold fj Ee;simp only;grind
 have i4:Ee (p,q) (c,d)*Ee (p,q) (c,d)+fj (p,q) (c,d)*fj (p,q) (c,d)=(p*p+q*q)*(c*c+d*d):=by
  unfold fj Ee;simp only;grind
 have nc:0<c*c+d*d:=sq_pos fun⟨g1,g2⟩=>hy (by rw[g1,g2]);have na:0<a*a+b*b:=sq_pos fun⟨g1,g2⟩=>hx (by rw[g1,g2]);have np:0<p*p+q*q:=sq_pos fun⟨g1,g2⟩=>hu (by rw[g1,g2]);have m1:=Jc na nc;have m2:=Jc np nc;rw[Ln (a,b) (c,d)]
 generalize fj (p,q) (a,b)=X at*
 generalize fj (p,q) (c,d)=Y at*
 generalize fj (a,b) (c,d)=Z at*
 generalize Ee (p,q) (a,b)=U at*
 generalize Ee (p,q) (c,d)=V at*
 generalize Ee (a,b) (c,d)=W at*
 generalize c*c+d*d=n at*
 by_cases hk:ahb X U=ahb Y V
 ·rw[bd hk]at h;rw[bd hk.symm];rw[decide_eq_false_iff_not]at h;rw[decide_eq_true_eq];rcases Q1 0 Z with z|z
  ·omega
  exfalso
  have hz:Z=0:=by omega
  subst hz
  have hW:W<0:=by
   rcases aFv W 0 with w|w|w
   ·exact w
   ·subst w;omega
   exact absurd ⟨rfl,w⟩ hn
  simp only[aKd,Int.sub_zero,amz]at i1 i2
  have sx:(0<X→Y<0)∧(X<0→0<Y)∧(X=0→Y=0):=by
   refine⟨fun g=>?_,fun g=>?_,fun g=>?_⟩
   ·have:=Jc g nc;rcases Q1 Y 0 with k|k
    ·exact k
    have:=J9 k (aIv hW);omega
   ·have:=ab4 g nc;rcases Q1 0 Y with k|k
    ·exact k
    have:=Dh k (aIv hW);omega
   subst g;rw[amx]at i1;exact(Cj.1 i1.symm).resolve_right (by omega)
  have su:(0<U→V<0)∧(U<0→0<V)∧(U=0→V=0):=by
   refine⟨fun g=>?_,fun g=>?_,fun g=>?_⟩
   ·have:=Jc g nc;rcases Q1 V 0 with k|k
    ·exact k
    have:=J9 k (aIv hW);omega
   ·have:=ab4 g nc;rcases Q1 0 V with k|k
    ·exact k
    have:=Dh k (aIv hW);omega
   subst g;rw[amx]at i2;exact(Cj.1 i2.symm).resolve_right (by omega)
  have nz:¬(V=0∧Y=0):=by
   rintro⟨rfl,rfl⟩;omega
  clear i1 i2 i3 i4 m1 m2 nc na np hn hu hx hy;unfold ahb at hk;split at hk<;>split at hk<;>(try split at hk)<;>(try split at hk)<;>(try split at hk)<;>omega
 rw[al hk]at h;rw[al (fun q=>hk q.symm)];rw[decide_eq_false_iff_not]at h;rw[decide_eq_true_eq];omega
theorem a2d{b fr Ef s:Sp}(h1:fr≠(0,0))(h2:lp Ef b≠(0,0))(h3:lp s b≠(0,0)):Vj b fr Ef s=a8g fr (lp s b) (lp Ef b):=av2 h1 h3 h2
theorem ak1{b fr x:Sp}:∀(r:List Sp) (h:Sp),x∈h::r→(∀w∈h::r,w≠x→Vj b fr x w=false∧Vj b fr w x=true)→r.foldl (wh b fr) h=x:=by
 intro r
 induction r with
 |nil=>intro h hm _;simp at hm;exact hm.symm
 |cons t r ih=>
  intro h hm hb;rw[Aq]
  have tn:wh b fr h t=h∨wh b fr h t=t:=by unfold wh;split<;>simp
  refine ih _ ?_ ?_
  ·rcases fb.1 hm with rfl|hm
   ·by_cases ht:t=x
    ·subst ht;rcases tn with q|q<;>rw[q]<;>simp
    have:=(hb t (by simp) ht).1;unfold wh;rw[this];simp
   rcases fb.1 hm with rfl|hm
   ·by_cases hh:h=x
    ·subst hh;rcases tn with q|q<;>rw[q]<;>simp
    have:=(hb h (by simp) hh).2;unfold wh;rw[this];simp
   exact aaz _ hm
  intro w hw;refine hb w ?_;rcases fb.1 hw with rfl|hw
  ·rcases tn with q|q<;>rw[q]<;>simp
  simp[hw]
theorem aba{a b:Sp}(h:a≠b):lp a b≠(0,0):=fun q=>h (by
 unfold lp at q;have h1:=congrArg Prod.fst q;have h2:=congrArg Prod.snd q;simp only at h1 h2
 exact R1 (by omega) (by omega))
theorem aec{a b c:Sp}(h:lp a c=lp b c):a=b:=by
 unfold lp at h;have h1:=congrArg Prod.fst h;have h2:=congrArg Prod.snd h;simp only at h1 h2;exact R1 (by omega) (by omega)
theorem alb{a b:Sp}(h:a≠b):ux a b=false:=by
 cases q:ux a b
 ·rfl
 exact absurd (zb.1 q) h
theorem agy{ls:List (List Sp)}{l:List Sp}{k:Nat}(hl:l∈ls)(hk:k<l.length):B8 l k∈ig ls:=by
 unfold ig;rw[Pb];exact⟨l,hl,by unfold jg;exact gr.2 ⟨k,ez.2 hk,rfl⟩⟩
theorem aoj{es:List Ed}(h:Gi es=true)(hc:Km es){o v w:Sp}(h1:(o,v)∈es)(h2:(o,w)∈es)(hne:v≠w):¬(fj (lp v o) (lp w o)=0∧0<Ee (lp v o) (lp w o)):=by
 rintro⟨hz,hd⟩;obtain⟨i,hi,ei⟩:=Hr h1;obtain⟨k,hk,ek⟩:=Hr h2;have si:=Bj h hi;have sk:=Bj h hk;rw[ei]at si;rw[ek]at sk;rcases as1 hz hd with g|g
 ·obtain⟨f,hf,fe⟩:=hc.1 _ h1;obtain⟨m,hm,em⟩:=Hr hf;have:=(V9 (sk.2 m hm).1).2;rw[em,fe]at this;exact this ⟨g,fun q=>si.1 q.symm,hne⟩
 obtain⟨f,hf,fe⟩:=hc.1 _ h2;obtain⟨m,hm,em⟩:=Hr hf;have:=(V9 (si.2 m hm).1).2;rw[em,fe]at this;exact this ⟨g,fun q=>sk.1 q.symm,fun q=>hne q.symm⟩
theorem apa{ls:List (List Sp)}(h:Gi (ig ls)=true)(hc:Km (ig ls))(ht:Od ls (ig ls)=true){l:List Sp}(hl:l∈ls){k:Nat}(hk:k<l.length):a3l (ig ls) (B8 l k)=B8 l ((k+1)%l.length):=by
 have hm:(k+1)%l.length<l.length:=a8a _ (by omega)
 have e2:((k+1)%l.length+1)%l.length=(k+2)%l.length:=by rw[Nat.mod_add_mod]
 have m1:=agy hl hk;have m2:=agy hl hm
 have hT:∀e∈ig ls,Fx l k e=true:=by
  intro e he;obtain⟨i,hi,rfl⟩:=gf.1 hl;obtain⟨j,hj,rfl⟩:=Hr he;have a1:=dj.1 ht i (ez.2 hi)
  have:ls.getD i []=ls[i]:=by simp[cw,hi]
  rw[this]at a1;exact dj.1 (dj.1 a1 k (ez.2 hk)) j (ez.2 hj)
 unfold a3l;unfold B8 at m1 m2⊢;unfold Fx at hT;rw[e2]at m2⊢;simp only
 generalize l.getD k (0,0)=p at*
 generalize l.getD ((k+1)%l.length) (0,0)=a at*
 generalize l.getD ((k+2)%l.length) (0,0)=nx at*
 refine R1 rfl ?_;simp only;have Bs:nx∈outs (ig ls) a:=Rh.2 m2
 have apart:∀{x y:Sp},(x,y)∈ig ls→x≠y:=by
  intro x y hxy;obtain⟨i,hi,ei⟩:=Hr hxy;have:=(Bj h hi).1;rw[ei]at this;exact this
 have back:∀w,(a,w)∈ig ls→w≠p:=by
  rintro w hw rfl;obtain⟨i,hi,ei⟩:=Hr m1;obtain⟨j,hj,ej⟩:=Hr hw
  have hne:i≠j:=by
   rintro rfl;rw[ei]at ej;exact apart m1 (congrArg Prod.fst ej)
  have:=(ac6 ((Bj h hi).2 j hj).2 hne).2;rw[ei,ej]at this;exact this ⟨rfl,rfl⟩
 have key:∀w∈outs (ig ls) a,w≠nx→Vj a (lp p a) nx w=false∧Vj a (lp p a) w nx=true:=by
  intro w hw hwn;have hw':=Rh.1 hw;have t:=hT _ hw';unfold Zr at t;simp only at t;rw[bd (zb.2 rfl)]at t;unfold W7 at t;rw[alb (fun q=>back w hw' (aec q)),alb (fun q=>hwn (aec q))]at t;simp only[M7,u9,qp]at t;have n1:=aba (apart m1);have n2:=aba (fun q=>apart m2 (Eq.symm q));have n3:=aba (fun q=>apart hw' (Eq.symm q));rw[a2d n1 n2 n3,a2d n1 n3 n2];exact⟨t,ahz n1 n3 n2 (aoj h hc hw' m2 hwn) t⟩
 cases ho:outs (ig ls) a with
 |nil=>rw[ho]at Bs;simp at Bs
 |cons x r=>
  rw[ho]at Bs key;exact ak1 r x Bs key
theorem agx{es:List Ed}(h:Gi es=true):es.Nodup:=by
 rw[As,yp];intro i j hi hj J3 q;have:=(ac6 ((Bj h hi).2 j hj).2 (by omega)).1;simp only[cw,ax hi,ax hj,jc]at this;exact this q
theorem ahu{ls:List (List Sp)}(h:Gi (ig ls)=true)(hc:Km (ig ls))(ht:Od ls (ig ls)=true){l:List Sp}(hl:l∈ls)(h3:0<l.length)(hnd:(jg l).Nodup)(u:List Ed)(hu:∀e∈jg l,e∉u):
  ∀(d k m:Nat),k+d=l.length→d+1≤m→Ah (ig ls) m (u++(jg l).take k) (B8 l (k%l.length))=(l.drop k,u++jg l):=by
 intro d
 induction d with
 |zero=>
  intro k m hk hm;obtain⟨m,rfl⟩:∃m',m=m'+1:=⟨m-1,by omega⟩
  have hk':k=l.length:=by omega
  subst hk'
  have ht:(jg l).take l.length=jg l:=by rw[←xl l];exact eh
  have hmt:Ni (u++jg l) (B8 l 0)=true:=Mi.2 (Vn _ (by unfold jg;exact gr.2 ⟨0,ez.2 h3,rfl⟩));unfold Ah;rw[ht,Nat.mod_self,hmt,Pc];rfl
 |succ d ih=>
  intro k m hk hm;obtain⟨m,rfl⟩:∃m',m=m'+1:=⟨m-1,by omega⟩
  have hk':k<l.length:=by omega
  have hkm:k%l.length=k:=aaw hk';rw[hkm]
  have hg:(jg l)[k]? =some (B8 l k):=by unfold jg;simp[hk']
  have U9:B8 l k∈jg l:=jw hg
  have hnm:Ni (u++(jg l).take k) (B8 l k)=false:=by
   cases q:Ni (u++(jg l).take k) (B8 l k)
   ·rfl
   exfalso;rcases lx.1 (Mi.1 q)with q|q
   ·exact hu _ U9 q
   obtain⟨j,hj,ej⟩:=gf.1 q;rw[er]at hj;rw[adx]at ej
   have hk2:k<(jg l).length:=by rw[xl];exact hk'
   have e3:(jg l)[k]=B8 l k:=by rw[ax hk2]at hg;exact avj hg
   rw[←e3]at ej;have:=(yp.1 (As.1 hnd)) j k (by omega) hk2 (by omega);exact this ej
  unfold Ah;rw[hnm,apa h hc ht hl hk',po,←Ov hk',ih (k+1) m (by omega) (by omega)]
  have hd:l.drop k=l.getD k (0,0)::l.drop (k+1):=by
   rw[jj hk'];simp[cw,hk']
  rw[hd];rfl
theorem aks(es:List Ed):∀(r:List Ed) (x:List Ed×List (List Sp)),(∀e∈r,e∈x.1)→r.foldl (zr es) x=x:=by
 intro r
 induction r with
 |nil=>intro x _;rfl
 |cons e r ih=>
  intro x h
  have:zr es x e=x:=by
   unfold zr;rw[bd (Mi.2 (h e (by simp)))]
  rw[Aq,this];exact ih x fun f hf=>h f (by simp[hf])
theorem ahd{ls:List (List Sp)}(h:Gi (ig ls)=true)(hc:Km (ig ls))(ht:Od ls (ig ls)=true)(h3:∀l∈ls,3≤l.length):
  ∀(r:List (List Sp)) (u:List Ed) (R:List (List Sp)),(∀l∈r,l∈ls)→(u++ig r).Nodup→(ig r).foldl (zr (ig ls)) (u,R)=(u++ig r,R++r.map (Ki (Bd (ig ls)) (Ht (ig ls)))):=by
 intro r
 induction r with
 |nil=>intro u R _ _;simp[ig]
 |cons l r ih=>
  intro u R hr hn;have hl:=hr l (by simp);have hl3:=h3 l hl;have e1:ig (l::r)=jg l++ig r:=rfl;rw[e1]at hn⊢;rw[←po]at hn;have hn1:=(T3.1 hn).1;have hnd:=(T3.1 hn1).2.1;have hu:∀e∈jg l,e∉u:=fun e he hu=>(T3.1 hn1).2.2 e hu e he rfl;rw[pn]
  have hlen:l.length≤(ig ls).length:=by rw[O7];exact Yp hl
  have tl:=ahu h hc ht hl (by omega) hnd u hu l.length 0 ((ig ls).length+1) (by omega) (by omega);rw[M5,sr,Nat.zero_mod,adz]at tl
  have aBq:(jg l).foldl (zr (ig ls)) (u,R)=(u++jg l,R++[Ki (Bd (ig ls)) (Ht (ig ls)) l]):=by
   have e2:∃t,jg l=B8 l 0::t:=by
    unfold jg;obtain⟨n,hn⟩:∃n,l.length=n+1:=⟨l.length-1,by omega⟩;rw[hn,List.range_succ_eq_map];exact⟨_,rfl⟩
   obtain⟨t,e2⟩:=e2
   have s1:zr (ig ls) (u,R) (B8 l 0)=(u++jg l,R++[Ki (Bd (ig ls)) (Ht (ig ls)) l]):=by
    unfold zr;have:¬Ni u (B8 l 0)=true:=fun q=>hu _ (by rw[e2];simp) (Mi.1 q);rw[al this];simp only;rw[tl]
   rw[e2,Aq,s1,←e2];refine aks _ _ _ fun e he=>?_;simp only;rw[e2];simp[he]
  rw[aBq,ih _ _ (fun x hx=>hr x (by simp[hx])) hn];simp[po]
theorem az4{ls:List (List Sp)}(h:Gi (ig ls)=true)(ht:Od ls (ig ls)=true)(h3:∀l∈ls,3≤l.length):Hy ls=Cn ls:=by
 have hc:=Sr h3;have:=ahd h hc ht h3 ls [] [] (fun _ hl=>hl) (by simpa using agx h);unfold Hy xw Cn;rw[eh,this];simp
theorem aim{ls:List (List Sp)}(h:qx ls=true):ot ls=true:=by
 unfold qx at h;simp only[da]at h;obtain⟨h1,h2,h3,h4⟩:=h;obtain⟨f1,f2,f3⟩:=a1p h1
 have hl3:∀l∈ls,3≤l.length:=by
  intro l hl;obtain⟨i,hi,rfl⟩:=gf.1 hl;have:=dj.1 h1 i (ez.2 hi);unfold He at this
  have e:ls.getD i []=ls[i]:=by simp[cw,hi]
  rw[e]at this;simp only[da,decide_eq_true_eq]at this;exact this.1
 unfold ot;simp only[da];refine⟨?_,?_,ane h2,aq4 h2 (Sr hl3) h3,?_⟩
 ·unfold Y3;rw[decide_eq_true f2,decide_eq_true (show ls.length≤60 by omega)];rfl
 ·refine dj.2 fun l hl=>?_;unfold okL;rw[decide_eq_true (hl3 l hl),u9];exact dj.2 (f3 l hl).2
 rw[az4 h2 h4 hl3];simp
def p0:Pm:=⟨⟨#[]⟩,0⟩
def wg(t:Tr)(s:ByteArray):Int:=zm (fun i=>kz (t.ps.getD i p0).n s) t.ps.length
def xu(t:Tr)(s:ByteArray):Int:=zm (fun i=>kz (t.ns.getD i n0).n s) t.ns.length
section
variable{P:Program}(A:Pr P)
theorem ar6(p:Pm)(s:ByteArray):iz P A.vb [.agg (ti p),.uw [.str s] 0] (.bool (kz p.n s)):=by
 refine ec A.mo A.Yz (by simp) ?_;show kq P Jr (mb _ _) _;simp only[Jr,ti,kz,go_sem,aa,ae,ah]
theorem ar5(n:Nd)(s:ByteArray):iz P A.va [.agg (zw n),.uw [.str s] 0] (.bool (kz n.n s)):=by
 refine ec A.mo A.Yy (by simp) ?_;show kq P Jq (mb _ _) _;simp only[Jq,zw,vn,ku,ng,kz,go_sem,aa,ae,ah]
theorem aw9(t:Tr)(s:ByteArray)(hl:t.ps.length≤2^50):iz P A.j9 [.agg (ud t),.str s] (.int ab (wg t s)):=by
 refine ec A.mo A.a3e (by simp) ?_;show kq P (N8 A.vb A.ny) (mb _ _) _
 have h:=arh A (l:=t.ps) (g:=A.vb) (j2:=[.uw [.str s] 0]) (p:=fun i=>kz (t.ps.getD i p0).n s) (fun i hi=>by
  have e:t.ps.getD i p0=t.ps[i]:=by simp[cw,hi]
  rw[e];exact ar6 A _ _) hl
 simp only[jq]at h;simp only[N8,ud,jq,l5,go_sem,aa,ae,ah];refine jr (ds:=[.gz 2 (t.ps.map ti),.oq A.vb [.uw [.str s] 0]]) ?_ h rfl ?_
 ·simp only[go_sem,aa,ju,oh]
 simp only[go_sem,aa];rfl
theorem aw8(t:Tr)(s:ByteArray)(hl:t.ns.length≤2^50):iz P A.kj [.agg (ud t),.str s] (.int ab (xu t s)):=by
 refine ec A.mo A.a3d (by simp) ?_;show kq P (N7 A.va A.ja) (mb _ _) _
 have h:=aeu A (l:=t.ns) (g:=A.va) (j2:=[.uw [.str s] 0]) (p:=fun i=>kz (t.ns.getD i n0).n s) (fun i hi=>by
  have e:t.ns.getD i n0=t.ns[i]:=by simp[cw,hi]
  rw[e];exact ar5 A _ _) hl
 simp only[l5]at h;simp only[N7,ud,jq,l5,go_sem,aa,ae];refine jr (ds:=[.gz 5 (t.ns.map zw),.oq A.va [.uw [.str s] 0]]) ?_ h rfl ?_
 ·simp only[go_sem,aa,ju,oh]
 simp only[go_sem,aa];rfl
theorem ao2(l:List Pm)(hl:l.length≤2^40):iz P A.fk [jq l] (jq l):=
 Ux A.mo (sz:=2) (by_:=24) (z:=[.str ⟨#[]⟩,.int ab 0]) A.F0 (dm:=l.map ti) (by simp[ti,D.one]) (by simp only[ag];omega)
theorem aih(l:List ByteArray)(hl:l.length≤2^40):iz P A.o6 [ng l] (ng l):=
 Ux A.mo (sz:=1) (by_:=16) (z:=[.str ⟨#[]⟩]) A.Kv (dm:=l.map ss) (by simp[ss,D.one]) (by simp only[ag];omega)
theorem ao0(l:List Vl)(hl:l.length≤2^40):iz P A.kh [vn l] (vn l):=
 Ux A.mo (sz:=3) (by_:=32) (z:=[.str ⟨#[]⟩,.int ab 0,.int ab 0]) A.Al (dm:=l.map Gj) (by simp[Gj,D.one]) (by simp only[ag];omega)
theorem ao1(l:List Sp)(hl:l.length≤2^40):iz P A.fy [xf l] (xf l):=
 Ux A.mo (sz:=2) (by_:=16) (z:=[.int ab 0,.int ab 0]) A.B6 (dm:=l.map C5) (fun e he=>by obtain⟨p,_,rfl⟩:=gr.1 he;rfl) (by simp only[ag];omega)
theorem a9w(ls:List (List Sp))(h1:ls.length≤2^30)(h2:∀l∈ls,l.length≤2^40):iz P A.jm [ku ls,.oq A.fy []] (ku ls):=by
 have main:iz P A.jm [ku ls,.oq A.fy []] (C6 1 (ls.map fun l=>[xf l])):=by
  refine ec A.mo A.Mm (by simp) ?_;show kq P A7 (mb _ _) _;simp only[A7,ku,go_sem,aa,reduceCtorEq];refine we (fun s'=>s'.base=0∧x9 s' 19 1 (ls.map fun l=>[xf l]) (s'.tmp 5)) ?_ ?_
  ·refine fp ls.length (fun i s'=>s'.base=0∧s'.tmp 1= .d (.oq A.fy [])∧s'.tmp 8= .d (.gz 1 (ls.map fun l=>[xf l]))∧s'.tmp 9= .d (.int ab ls.length)∧s'.tmp 10= .d (.int ab i)∧x9 s' 19 1 ((ls.take i).map fun l=>[xf l]) (s'.tmp 5)) ?_ ?_
   ·simp only[go_sem,aa,ag];exact x9.nil
   rintro i s' hi ⟨eb,f1,f8,f9,f10,acc⟩;by_cases hlt:(i:Int)<ls.length
   ·have dq:i<ls.length:=by omega
    have wi:=dh ((i:Int)+1) (by omega) (by omega);have hg:=Fu dq;have hcl:=ao1 A ls[i] (h2 _ (df dq))
    have e1:(ls.take (i+1)).map (fun l=>[xf l])=(ls.take i).map (fun l=>[xf l])++[[xf ls[i]]]:=by
     rw[gl,fl];simp[dq]
    simp only[xf]at hcl;simp only[go_sem,aa,reduceCtorEq,eb,f1,f8,f9,f10,hlt,hg,bp,ao];refine a7m hcl ?_;simp only[go_sem,aa,di];refine uh (dm:=(ls.take i).map fun l=>[xf l]) (ys:=[[xf ls[i]]]) (osz:=some 1) ?_ ?_ rfl (by simp[xf,D.one]) ?_ (by simp) ?_
    ·simp only[go_sem,aa];exact acc.mono (by simp[aj]) (by simp[aj])
    ·simp only[go_sem,aa,qh,xf]
    ·simp only[ag,cj,du,er];omega
    intro s3 g;have Hg:=g.acc (by simp);rw[g.tmp,cu]at Hg;simp only[gd]at Hg;simp only[go_sem,aa,reduceCtorEq,g.tmp,g.base,f1,f8,f9,f10,wi,dq,e1];refine⟨by rw[lz];rfl,?_⟩;exact Hg.mono rfl rfl
   have:i=ls.length:=by omega
   subst this;rw[eh]at acc;simp only[go_sem,aa,reduceCtorEq,eb,f9,f10,hlt];exact acc.mono rfl rfl
  rintro s' ⟨eb,acc⟩;rcases acc with ⟨a1,a2⟩|⟨a1,a2,a3⟩
  ·simp only[go_sem,aa,eb,a1,a2,C6]
  simp only[go_sem,aa,eb,a2,a3,C6,al a1]
 exact main.M8 Kj
theorem abn(n:Nd)(hv:n.f.vs.length≤2^40)(h1:n.f.ls.length≤2^30)(h2:∀l∈n.f.ls,l.length≤2^40)(hi:n.ins.length≤2^40):iz P A.iy [.agg (zw n)] (.agg (zw n)):=by
 refine ec A.mo A.a6k (by simp) ?_;show kq P (Oo A.o6 A.kh A.jm A.fy) (mb _ _) _;have c1:=aih A n.ins hi;have c2:=ao0 A n.f.vs hv;have c3:=a9w A n.f.ls h1 h2;simp only[ng,vn,ku]at c1 c2 c3;simp only[Oo,zw,ng,vn,ku,go_sem,aa,ae];refine ft c1 ?_;simp only[go_sem,aa,ae,ah];refine ft c2 ?_;simp only[go_sem,aa,ae,ah];refine j5 c3 ?_;simp only[go_sem,aa,ae,ah]
theorem ank(l:List Nd)(h:l.length≤2^30)(hn:∀n∈l,n.f.vs.length≤2^40∧n.f.ls.length≤2^30∧(∀q∈n.f.ls,q.length≤2^40)∧n.ins.length≤2^40):iz P A.dw [l5 l,.oq A.iy []] (l5 l):=by
 have main:iz P A.dw [l5 l,.oq A.iy []] (C6 5 (l.map zw)):=by
  refine ec A.mo A.Ml (by simp) ?_;show kq P A0 (mb _ _) _;simp only[A0,l5,go_sem,aa,reduceCtorEq];refine we (fun s'=>s'.base=0∧x9 s' 19 5 (l.map zw) (s'.tmp 5)) ?_ ?_
  ·refine fp l.length (fun i s'=>s'.base=0∧s'.tmp 1= .d (.oq A.iy [])∧s'.tmp 8= .d (.gz 5 (l.map zw))∧s'.tmp 9= .d (.int ab l.length)∧s'.tmp 10= .d (.int ab i)∧x9 s' 19 5 ((l.take i).map zw) (s'.tmp 5)) ?_ ?_
   ·simp only[go_sem,aa,ag];exact x9.nil
   rintro i s' hi ⟨eb,f1,f8,f9,f10,acc⟩;by_cases hlt:(i:Int)<l.length
   ·have dq:i<l.length:=by omega
    have wi:=dh ((i:Int)+1) (by omega) (by omega);have hg:=Kh dq
    have hm:l.getD i n0∈l:=by
     have e:l.getD i n0=l[i]:=by simp[cw,dq]
     rw[e];exact df _
    obtain⟨k1,k2,k3,k4⟩:=hn _ hm;have hcl:=abn A (l.getD i n0) k1 k2 k3 k4
    have e1:(l.take (i+1)).map zw=(l.take i).map zw++[zw (l.getD i n0)]:=by
     rw[gl,fl];simp[dq,cw]
    generalize l.getD i n0=n at*
    have e2:zw n=[.str n.n,.int ab n.f.k,.gz 3 (n.f.vs.map Gj),.gz 1 (n.f.ls.map fun l=>[xf l]),.gz 1 (n.ins.map ss)]:=rfl;rw[e2]at hcl;simp only[vn,ku,ng]at hg;simp only[go_sem,aa,ae,reduceCtorEq,eb,f1,f8,f9,f10,hlt,hg,bp,ao];refine a7m hcl ?_;simp only[go_sem,aa,ae,di];refine uh (dm:=(l.take i).map zw) (ys:=[zw n]) (osz:=some 5) ?_ ?_ rfl (by simp[zw,vn,ku,ng,D.one]) ?_ (by simp) ?_
    ·simp only[go_sem,aa];exact acc.mono (by simp[aj]) (by simp[aj])
    ·simp only[go_sem,aa,qh,e2]
    ·simp only[ag,cj,du,er];omega
    intro s3 g;have Hg:=g.acc (by simp);rw[g.tmp,cu]at Hg;simp only[gd]at Hg;simp only[go_sem,aa,reduceCtorEq,g.tmp,g.base,f1,f8,f9,f10,wi,dq,e1];refine⟨by rw[lz];rfl,?_⟩;exact Hg.mono rfl rfl
   have:i=l.length:=by omega
   subst this;rw[eh]at acc;simp only[go_sem,aa,reduceCtorEq,eb,f9,f10,hlt];exact acc.mono rfl rfl
  rintro s' ⟨eb,acc⟩;rcases acc with ⟨a1,a2⟩|⟨a1,a2,a3⟩
  ·simp only[go_sem,aa,eb,a1,a2,C6]
  simp only[go_sem,aa,eb,a2,a3,C6,al a1]
 exact main.M8 Kj
def Mid(t:Tr):Prop:=t.ps.length≤2^30∧t.ns.length≤2^20∧∀n∈t.ns,n.f.vs.length≤2^30∧n.f.ls.length≤2^30∧(∀q∈n.f.ls,q.length≤2^30)∧n.ins.length≤2^30
theorem a4u(t:Tr)(h:Mid t):iz P A.lh [.agg (ud t)] (.agg (ud t)):=by
 refine ec A.mo A.a0m (by simp) ?_;show kq P (Le A.fk A.dw A.iy) (mb _ _) _;obtain⟨h1,h2,h3⟩:=h;have c1:=ao2 A t.ps (by omega)
 have c2:=ank A t.ns (by omega) (fun n hn=>by
  obtain⟨k1,k2,k3,k4⟩:=h3 n hn
  exact⟨by omega,by omega,fun q hq=>by have:=k3 q hq;omega,by omega⟩)
 simp only[jq,l5]at c1 c2;simp only[Le,ud,jq,l5,go_sem,aa,ae,ah];refine ft c1 ?_;simp only[go_sem,aa,ae];refine j5 c2 ?_;simp only[go_sem,aa,ae,ah]
end
def Own(m:Mem)(id sz:Nat)(dm:List (List D))(c:C):Prop:=(dm=[]∧c= .d .ck)∨(c= .ref id (m.av id) dm.length∧m.dc id=some (.arr sz dm))
theorem Own.mono{m m':Mem}{id sz:Nat}{dm:List (List D)}{c:C}(h:Own m id sz dm c)(hb:m'.dc id=m.dc id)(hv:m'.av id=m.av id):Own m' id sz dm c:=by
 rcases h with h|⟨h1,h2⟩
 ·exact .inl h
 exact .inr ⟨by rw[hv];exact h1,by rw[hb];exact h2⟩
theorem Own.wf{m:Mem}{id sz:Nat}{dm:List (List D)}{c:C}(h:Own m id sz dm c):Oa m c:=by
 rcases h with ⟨_,rfl⟩|⟨rfl,_⟩
 ·trivial
 exact ay _
theorem Own.one{s:PS}{id sz:Nat}{dm:List (List D)}{c:C}(h:Own s.mem id sz dm c):C.one s c=true:=by
 rcases h with ⟨_,rfl⟩|⟨rfl,h2⟩
 ·rfl
 have h2':s.dc id=some (.arr sz dm):=h2;simp[C.one,V.live,PS.Jb,PS.mem,h2',B.De]
structure Ext(m:Mem)(b:Nat)(K:Nat→Prop)(m':Mem):Prop where
 low:∀i,i<b→m'.dc i=m.dc i∧m'.av i=m.av i∧m'.mp i=m.mp i
 high:∀i,b≤i→¬K i→m'.dc i=none
 mps:∀i,b≤i→m'.mp i=none
 av:∀i,m.av i≤m'.av i
 wf:∀i,b≤i→∀x,m'.dc i=some x→Ms m' x
theorem Ms.mono{m m':Mem}(h:∀i,m.av i≤m'.av i){x:B}(hx:Ms m x):Ms m' x:=by
 cases x with
 |arr=>trivial
 |Sd=>trivial
 |loc cs=>exact fun c hc=>(hx c hc).mono h
 |qi sz dm=>exact fun e he c hc=>(hx e he c hc).mono h
def uo(m:Mem)(b:Nat):Prop:=∀i,b≤i→m.dc i=none∧m.mp i=none
open Classical in
noncomputable def Mem.only(m:Mem)(b:Nat)(K:Nat→Prop):Mem:=⟨fun i=>if i<b∨K i then m.dc i else none,m.av,fun i=>if i<b then m.mp i else none⟩
section
variable{P:Program}{s:PS}
theorem U4{m:Mem}{b:Nat}{K:Nat→Prop}{r:V}(nh:∀i,m.av i≤s.av i)(X9:∀i,i<b→s.dc i=m.dc i∧s.av i=m.av i∧s.mp i=m.mp i)(hK:∀i,K i→∀x,s.dc i=some x→Ms s.mem x)(hr:Hh s.mem r):
  Leaves m s (s.mem.only b K) r∧Ext m b K (s.mem.only b K):=by
 refine⟨⟨fun i=>⟨?_,?_⟩,nh,fun i x hx=>?_,fun i es hi=>?_,?_⟩,⟨fun i hi=>?_,fun i hi hn=>?_,fun i hi=>?_,nh,fun i hi x hx=>?_⟩⟩
 ·simp only[Mem.only];split
  ·exact .inr ⟨rfl,trivial⟩
  exact .inl rfl
 ·simp only[Mem.only];split
  ·exact .inr ⟨rfl,trivial⟩
  exact .inl rfl
 ·simp only[Mem.only]at hx;split at hx
  ·rename_i h;rcases a4e i b with h|h'
   ·exact .inl (by rw[←(X9 i h).1];exact hx)
   have hk:K i:=h.resolve_left (by omega);have:=hK i hk x hx;right;cases x<;>exact this
  cases hx
 ·simp only[Mem.only]at hi;split at hi
  ·rename_i h;exact .inl (by rw[←(X9 i h).2.2];exact hi)
  cases hi
 ·cases r<;>exact hr
 ·simp only[Mem.only];rw[bd (.inl hi),bd hi];exact X9 i hi
 ·simp only[Mem.only]
  rw[al (by rintro(h|h);omega;exact hn h)]
 ·simp only[Mem.only];rw[al (by omega)]
 simp only[Mem.only]at hx;split at hx
 ·rename_i h;have hk:K i:=h.resolve_left (by omega);have:=hK i hk x hx;cases x<;>exact this
 cases hx
theorem a5f{m:Mem}{b id sz:Nat}{K:Nat→Prop}{dm:List (List D)}{c:C}(h:Own m id sz dm c)(hk:K id):Own (m.only b K) id sz dm c:=
 h.mono (by simp[Mem.only,hk]) rfl
theorem Df.mono{f:Nat}{args:List V}{R R':Mem→V→Prop}(h:Df P f s args R)(hR:∀m r,R m r→R' m r):Df P f s args R':=
 ⟨h.1,fun B0 w0 nt G0 G E a w vs hF hl hrel=>(h.2 B0 w0 nt G0 G E a w vs hF hl hrel).mono fun _ _ ⟨v,G',E',m',r,h1,h2,h3⟩=>⟨v,G',E',m',r,h1,hR _ _ h2,h3⟩⟩
theorem Df.split{f sz:Nat}{az:List V}{R:Mem→V→Prop}(h1:Df P f s (.d .ck::az) R)(h2:Df P f s (.d .Of::az) R):Df P f s (.d (.gz sz [])::az) R:=by
 refine⟨h1.1,fun B0 w0 nt G0 G E a w vs hF hl hrel=>?_⟩
 have hl':vs.size=az.length+1:=by simpa using hl
 have h0:i6 G (.gz sz []) vs[0]:=hrel 0 (.d (.gz sz [])) vs[0] rfl (bh (by omega))
 have rest:∀y:D,i6 G y vs[0]→∀(i:Nat) (x:V) (v:Value),(V.d y::az)[i]? =some x→vs[i]? =some v→iw G E s x v:=by
  intro y hy i x v hx hv
  cases i with
  |zero=>
   simp only[dv,ak]at hx;rw[bh (by omega)]at hv
   injection hv with hv
   subst hx hv;exact hy
  |succ i=>exact hrel (i+1) x v hx hv
 generalize hv0:vs[0]=v0 at h0 rest
 cases h0 with
 |Vq=>exact h1.2 B0 w0 nt G0 G E a w vs hF (by simpa using hl) (rest _ .ck)
 |gz=>exact h2.2 B0 w0 nt G0 G E a w vs hF (by simpa using hl) (rest _ .Of)
 |Y2=>exact h2.2 B0 w0 nt G0 G E a w vs hF (by simpa using hl) (rest _ .Of)
def aCv(m:Mem)(b sz:Nat)(dm:List (List D))(m':Mem)(r:V):Prop:=
 (dm=[]∧m'=m∧r= .d .ck)∨(m'=m.put (b+5) (m.av (b+5)+1) (.arr sz dm)∧r= .ref (b+5) (m.av (b+5)+1) dm.length)
theorem akp(hm:P.follows .mixedOrders=true){f:Nat}{sz by_:Nat}{z:List D}(hf:ff P f {}=some (Iz sz by_ z,[.tmp 2],8))(m:Mem)(b:Nat):
  qm P f m [.d .Of] (m.put (b+5) (m.av (b+5)+1) (.arr sz [])) (.ref (b+5) (m.av (b+5)+1) 0):=by
 refine lu hm hf (by simp) b (fun c=>?_) (Mem.Lu (by omega)) Mem.Qr (fun i es hi=> .inl hi) (by simp[Hh,Mem.put,cu]);show kq P (Iz sz by_ z) (xv m [.tmp 2] _ _) _;simp only[Iz,enter,go_sem,aa,ah,reduceCtorEq,di,Gb,qh,aAa,Pz,pa,sq];intro i;simp only[Mem.put,PS.mem,aj];by_cases hi:i=b+5
 ·subst hi;simp
 simp[hi]
theorem a4c(hm:P.follows .mixedOrders=true){f:Nat}{sz by_:Nat}{z:List D}(hf:ff P f {}=some (Iz sz by_ z,[.tmp 2],8)){dm:List (List D)}(ho:∀e∈dm,e.all D.one=true)(hb:dm.length*by_≤2^47)(s:PS)(b:Nat):
  Df P f s [.d (.gz sz dm)] (aCv s.mem b sz dm):=by
 by_cases hne:dm=[]
 ·subst hne;refine Df.split ?_ ?_
  ·have:=((apz hm hf).toR).toE (s:=s);refine Df.mono this ?_;rintro m r ⟨rfl,x,rfl,rfl⟩;exact .inl ⟨rfl,rfl,rfl⟩
  refine Df.mono (akp hm hf s.mem b).toR ?_;rintro m r ⟨rfl,rfl⟩;exact .inr ⟨rfl,rfl⟩
 refine Df.mono (aar hm hf hne ho hb s.mem b).toR ?_;rintro m r ⟨rfl,rfl⟩;exact .inr ⟨rfl,rfl⟩
theorem aaa{cs:List C}:(mkv true cs).cells s=some cs:=by
 unfold mkv
 cases h:Lo cs with
 |none=>rfl
 |some ds=>
  have:∀(cs:List C) (ds:List D),Lo cs=some ds→ds.map C.d=cs:=by
   intro cs
   induction cs with
   |nil=>intro ds h;simp[Lo]at h;subst h;rfl
   |cons c r ih=>
    intro ds h
    cases c with
    |d x=>
     simp only[Lo]at h;split at h
     ·rename_i l hl
      injection h with h
      subst h;simp[ih l hl]
     cases h
    |_=>simp[Lo]at h
  simp only[V.cells,this cs ds h]
end
def P8(m:Mem)(b:Nat)(n:Nd)(e:List C):Prop:=∃cV cI,e=[.d (.str n.n),.d (.int ab n.f.k),cV,.d (ku n.f.ls),cI]∧Own m (b+45) 3 (n.f.vs.map Gj) cV∧Own m (b+35) 1 (n.ins.map ss) cI
def aA4(m:Mem)(b:Nat)(n:Nd)(m':Mem)(r:V):Prop:=Ext m b (fun i=>i=b+45∨i=b+35) m'∧∃e,r=mkv true e∧P8 m' b n e
theorem a06{m:Mem}{cs:List C}(h:∀c∈cs,Oa m c):Hh m (mkv true cs):=by
 unfold mkv
 cases Lo cs with
 |none=>exact h
 |some ds=>trivial
theorem P8.wf{m:Mem}{b:Nat}{n:Nd}{e:List C}(h:P8 m b n e):∀c∈e,Oa m c:=by
 obtain⟨cV,cI,rfl,h1,h2⟩:=h;intro c hc;simp only[fb,l8,or_false]at hc;rcases hc with rfl|rfl|rfl|rfl|rfl
 ·trivial
 ·trivial
 ·exact h1.wf
 ·trivial
 exact h2.wf
theorem Ym{m:Mem}{s:PS}{b:Nat}{n:Nd}{cV cI:C}(ht:s.tmp 2= .ie (b+2) (s.av (b+2)) 0)(hb:s.dc (b+2)=some (.loc [.d (.str n.n),.d (.int ab n.f.k),cV,.d (ku n.f.ls),cI]))
  (oV:Own s.mem (b+45) 3 (n.f.vs.map Gj) cV)(oI:Own s.mem (b+35) 1 (n.ins.map ss) cI)(nh:∀i,m.av i≤s.av i)(X9:∀i,i<b→s.dc i=m.dc i∧s.av i=m.av i∧s.mp i=m.mp i)
  (hV:∀x,s.dc (b+45)=some x→Ms s.mem x)(hI:∀x,s.dc (b+35)=some x→Ms s.mem x):
  ∃m' r,aA4 m b n m' r∧pa s [.cell 2 5 true]=some r∧Leaves m s m' r:=by
 have hC:P8 s.mem b n [.d (.str n.n),.d (.int ab n.f.k),cV,.d (ku n.f.ls),cI]:=⟨cV,cI,rfl,oV,oI⟩
 obtain⟨k1,k2⟩:=U4 (m:=m) (s:=s) (b:=b) (K:=fun i=>i=b+45∨i=b+35) (r:=mkv true [.d (.str n.n),.d (.int ab n.f.k),cV,.d (ku n.f.ls),cI]) nh X9 (fun i hi x hx=>by
  rcases hi with rfl|rfl
  ·exact hV x hx
  exact hI x hx) (a06 hC.wf)
 refine⟨_,_,⟨k2,_,rfl,cV,cI,rfl,a5f oV (.inl rfl),a5f oI (.inr rfl)⟩,?_,k1⟩;simp only[pa,sq,ht,C4,PS.cs,hb,cz];rfl
section
variable{P:Program}(A:Pr4 P)
theorem awa(n:Nd)(hv:n.f.vs.length≤2^40)(h1:n.f.ls.length≤2^30)(h2:∀l∈n.f.ls,l.length≤2^40)(hi:n.ins.length≤2^40)(s:PS)(b:Nat)(kl:uo s.mem b):Df P A.iy s [.d (.agg (zw n))] (aA4 s.mem b n):=by
 refine Uo A.mo A.a3f (by simp) b fun cx=>?_;show kq P (N9 A.o6 A.kh A.jm A.fy) _ _;have c3:=a9w A.toPr n.f.ls h1 h2;simp only[ku]at c3;simp only[N9,enter,zw,ng,vn,ku,go_sem,aa,ae];refine ko (a4c A.mo (sz:=1) (by_:=16) (z:=[.str ⟨#[]⟩]) A.Kv (dm:=n.ins.map ss) (by simp[ss,D.one]) (by simp only[ag];omega) _ (b+30)) ?_;rintro m1 r1 (⟨e1,rfl,rfl⟩|⟨rfl,rfl⟩)
 ·simp only[go_sem,aa,ae,ah,PS.j6,PS.mem];refine ko (a4c A.mo (sz:=3) (by_:=32) (z:=[.str ⟨#[]⟩,.int ab 0,.int ab 0]) A.Al (dm:=n.f.vs.map Gj) (by simp[Gj,D.one]) (by simp only[ag];omega) _ (b+40)) ?_;rintro m2 r2 (⟨e2,rfl,rfl⟩|⟨rfl,rfl⟩)
  ·simp only[go_sem,aa,ae,ah,PS.j6,PS.mem];refine j5 c3 ?_;simp only[go_sem,aa,ae,ah,reduceCtorEq];refine Ym (cV:= .d .ck) (cI:= .d .ck) (by simp[aj]) (by simp[aj,ku]) (.inl ⟨e2,rfl⟩) (.inl ⟨e1,rfl⟩) (fun i=>?_) (fun i hi=>?_) (fun x hx=>?_) (fun x hx=>?_)
   ·simp only[aj]
    (repeat' split)<;>first|omega|(subst_vars;omega)
   ·simp only[aj]
    refine⟨?_,?_,trivial⟩<;>(repeat' split)<;>first|omega|rfl
   ·simp only[aj,fu,aa,bn]at hx
    first|(injection hx with hx;subst hx;trivial)|(rw[show s.dc (b+45)=none from(kl _ (by omega)).1]at hx;cases hx)
   simp only[aj,fu,aa,bn]at hx
   first|(injection hx with hx;subst hx;trivial)|(rw[show s.dc (b+35)=none from(kl _ (by omega)).1]at hx;cases hx)
  simp only[go_sem,aa,ae,ah,PS.j6,PS.mem,Mem.put,rv,fg,ag];refine j5 c3 ?_;simp only[go_sem,aa,ae,ah,reduceCtorEq,fg,ag];refine Ym (cV:= .ref (b+45) (s.av (b+45)+1) n.f.vs.length) (cI:= .d .ck) (by simp[aj]) (by simp[aj,ku]) (.inr ⟨by simp[PS.mem,aj],by simp[PS.mem,aj]⟩) (.inl ⟨e1,rfl⟩) (fun i=>?_) (fun i hi=>?_) (fun x hx=>?_) (fun x hx=>?_)
  ·simp only[aj]
   (repeat' split)<;>first|omega|(subst_vars;omega)
  ·simp only[aj]
   refine⟨?_,?_,trivial⟩<;>(repeat' split)<;>first|omega|rfl
  ·simp only[aj,fu,aa,cz,bn]at hx
   first|(injection hx with hx;subst hx;trivial)|(rw[show s.dc (b+45)=none from(kl _ (by omega)).1]at hx;cases hx)
  simp only[aj,fu,aa,bn]at hx
  first|(injection hx with hx;subst hx;trivial)|(rw[show s.dc (b+35)=none from(kl _ (by omega)).1]at hx;cases hx)
 simp only[go_sem,aa,ae,ah,PS.j6,PS.mem,Mem.put,rv,fg,ag];refine ko (a4c A.mo (sz:=3) (by_:=32) (z:=[.str ⟨#[]⟩,.int ab 0,.int ab 0]) A.Al (dm:=n.f.vs.map Gj) (by simp[Gj,D.one]) (by simp only[ag];omega) _ (b+40)) ?_;rintro m2 r2 (⟨e2,rfl,rfl⟩|⟨rfl,rfl⟩)
 ·simp only[go_sem,aa,ae,ah,PS.j6,PS.mem];refine j5 c3 ?_;simp only[go_sem,aa,ae,ah,reduceCtorEq,fg,ag];refine Ym (cV:= .d .ck) (cI:= .ref (b+35) (s.av (b+35)+1) n.ins.length) (by simp[aj]) (by simp[aj,ku]) (.inl ⟨e2,rfl⟩) (.inr ⟨by simp[PS.mem,aj],by simp[PS.mem,aj]⟩) (fun i=>?_) (fun i hi=>?_) (fun x hx=>?_) (fun x hx=>?_)
  ·simp only[aj]
   (repeat' split)<;>first|omega|(subst_vars;omega)
  ·simp only[aj]
   refine⟨?_,?_,trivial⟩<;>(repeat' split)<;>first|omega|rfl
  ·simp only[aj,fu,aa,bn]at hx
   first|(injection hx with hx;subst hx;trivial)|(rw[show s.dc (b+45)=none from(kl _ (by omega)).1]at hx;cases hx)
  simp only[aj,fu,aa,cz,bn]at hx
  first|(injection hx with hx;subst hx;trivial)|(rw[show s.dc (b+35)=none from(kl _ (by omega)).1]at hx;cases hx)
 simp only[go_sem,aa,ae,ah,PS.j6,PS.mem,Mem.put,rv,fg,ag];refine j5 c3 ?_;simp only[go_sem,aa,ae,ah,reduceCtorEq,fg,ag];refine Ym (cV:= .ref (b+45) (s.av (b+45)+1) n.f.vs.length) (cI:= .ref (b+35) (s.av (b+35)+1) n.ins.length) (by simp[aj]) (by simp[aj,ku]) (.inr ⟨by simp[PS.mem,aj],by simp[PS.mem,aj]⟩) (.inr ⟨by simp[PS.mem,aj],by simp[PS.mem,aj]⟩) (fun i=>?_) (fun i hi=>?_) (fun x hx=>?_) (fun x hx=>?_)
 ·simp only[aj]
  (repeat' split)<;>first|omega|(subst_vars;omega)
 ·simp only[aj]
  refine⟨?_,?_,trivial⟩<;>(repeat' split)<;>first|omega|rfl
 ·simp only[aj,fu,aa,cz,bn]at hx
  first|(injection hx with hx;subst hx;trivial)|(rw[show s.dc (b+45)=none from(kl _ (by omega)).1]at hx;cases hx)
 simp only[aj,fu,aa,cz,bn]at hx
 first|(injection hx with hx;subst hx;trivial)|(rw[show s.dc (b+35)=none from(kl _ (by omega)).1]at hx;cases hx)
end
def aFj(s:PS)(id sz:Nat)(dm:List (List C))(v:V):Prop:=(dm=[]∧v= .d .ck)∨(dm≠[]∧v= .ref id (s.av id) dm.length∧s.dc id=some (.qi sz dm))
structure aCu(s s':PS)(d id sz:Nat)(dm:List (List C)):Prop where
 tmp:s'.tmp=l7 s.tmp d (.ref id (s'.av id) dm.length)
 dc:s'.dc=l7 s.dc id (some (.qi sz dm))
 av:∀j,j≠id→s'.av j=s.av j
 aDb:s.av id≤s'.av id
 mp:s'.mp=s.mp
 base:s'.base=s.base
section
variable{P:Program}{Q:Exit→PS→Prop}{K:PS→Prop}{s:PS}{r:List RI}{d:Option Nat}{af:List Nat}
theorem axd{d sz t:Nat}{z:List D}{cs:List C}(hc:(s.tmp t).cells s=some cs)(hl:cs.length=sz)(hz:z.length=sz)(h1:cs.all (C.one s)=true)
  (h:lk P r {s with tmp:=l7 s.tmp d (.ref (s.base+d) (s.av (s.base+d)+1) 1),dc:=l7 s.dc (s.base+d) (some (.qi sz [cs])),av:=l7 s.av (s.base+d) (s.av (s.base+d)+1)} K):
  lk P (⟨some d,.a0x 1 sz z [(0,sz,.t t)],none,af⟩::r) s K:=by
 have hp:patch (z.map C.d) 0 cs=cs:=by
  unfold patch;rw[M5,Ap,Nw (by simp;omega),sr]
 have hf:Mo (((jb 1 z).flatten).map C.d) [(0,sz,cs)]=some cs:=by
  simp only[Mo,jb,avf,aIu,sr,ag];rw[bd ⟨hl,by omega⟩,hp]
 have ht:cs.take sz=cs:=by rw[←hl];exact eh
 rw[asi];simp only[jy.p9,K0,agr,hc,hf,h1,cz,jc,F1,mc.app,PS.uu,PS.put,chunks,ht];exact h
theorem aj1{d sz b yid yver:Nat}{x y:nk}{dm ys:List (List C)}(hx:aFj s (s.base+d) sz dm (x.ev s))(hy:y.ev s= .ref yid yver ys.length)(hyv:s.av yid=yver)(hyb:s.dc yid=some (.qi sz ys))
  (Bm:(ys.all fun e=>e.all (C.one s))=true)(hb:(dm.length+ys.length)*b≤2^47)(hne:ys≠[])(h:∀s',aCu s s' d (s.base+d) sz (dm++ys)→lk P r s' K):
  lk P (⟨some d,.app sz b x y,none,af⟩::r) s K:=by
 subst hyv;have hl:0<ys.length:=a2j.2 hne
 have e1:qh s (.ref yid (s.av yid) ys.length)=none:=by simp[qh,PS.dm,hyb]
 have e2:Za s (.ref yid (s.av yid) ys.length)=some (ys,some sz):=by simp[Za,PS.elc,hyb]
 rw[Gb];simp only[jy.p9,hy,e1,Qz,e2,jc];rw[bd ⟨trivial,Bm⟩];rcases hx with ⟨rfl,hx⟩|⟨ath,hx,hblk⟩
 ·simp only[hx];rw[al (by omega),bd (by simpa using hb),F1];refine h _ ⟨?_,?_,?_,?_,rfl,rfl⟩
  ·simp[mc.app,PS.put,PS.uu,cu]
  ·simp[mc.app,PS.put,PS.uu]
  ·intro j hj;simp[mc.app,PS.put,PS.uu,gj _ _ _ _ hj]
  simp[mc.app,PS.put,PS.uu,cu]
 have he:s.elc (s.base+d) (s.av (s.base+d))=some (sz,dm):=by
  unfold PS.elc;rw[bd rfl,hblk]
 simp only[hx,he];rw[bd ⟨trivial,trivial,hb⟩,F1];refine h _ ⟨?_,?_,?_,?_,rfl,rfl⟩
 ·simp[mc.app,PS.put,PS.uu]
 ·simp[mc.app,PS.put,PS.uu]
 ·intro j hj;simp[mc.app,PS.put,PS.uu]
 simp[mc.app,PS.put,PS.uu]
end
theorem P8.mono{m m':Mem}{b:Nat}{n:Nd}{e:List C}(h:P8 m b n e)(h1:m'.dc (b+45)=m.dc (b+45))(h2:m'.av (b+45)=m.av (b+45))(h3:m'.dc (b+35)=m.dc (b+35))(h4:m'.av (b+35)=m.av (b+35)):P8 m' b n e:=by
 obtain⟨cV,cI,rfl,k1,k2⟩:=h;exact⟨cV,cI,rfl,k1.mono h1 h2,k2.mono h3 h4⟩
theorem P8.ax7{s:PS}{m:Mem}{b:Nat}{n:Nd}{e:List C}(h:P8 m b n e)(hm:s.mem=m):e.all (C.one s)=true:=by
 subst hm;obtain⟨cV,cI,rfl,k1,k2⟩:=h;simp only[W4,aJr,k1.one,k2.one,Hj];rfl
theorem P8.len{m:Mem}{b:Nat}{n:Nd}{e:List C}(h:P8 m b n e):e.length=5:=by
 obtain⟨cV,cI,rfl,_⟩:=h;rfl
def Np(m:Mem)(b:Nat)(l:List Nd)(cells:List (List C)):Prop:=cells.length=l.length∧∀k,k<l.length→P8 m (b+64+64*k) (l.getD k n0) (cells.getD k [])
def a18(b n:Nat)(i:Nat):Prop:=i=b+19∨∃k,k<n∧(i=b+64+64*k+45∨i=b+64+64*k+35)
def aCs(m:Mem)(b:Nat)(l:List Nd)(v:V):Prop:=∃cells,Np m b l cells∧((l=[]∧v= .d .ck)∨(l≠[]∧v= .ref (b+19) (m.av (b+19)) l.length∧m.dc (b+19)=some (.qi 5 cells)))
def aCt(m:Mem)(b:Nat)(l:List Nd)(m':Mem)(r:V):Prop:=Ext m b (a18 b l.length) m'∧aCs m' b l r
section
variable{P:Program}(A:Pr4 P)
def avc(m:Mem)(b:Nat)(l:List Nd)(i:Nat)(s':PS):Prop:=
 s'.base=b∧(∀j,j<b→s'.dc j=m.dc j∧s'.av j=m.av j∧s'.mp j=m.mp j)∧(∀j,m.av j≤s'.av j)∧(∀j,b+64≤j→¬a18 b i j→s'.dc j=none)∧(∀j,b≤j→s'.mp j=none)∧(∀j,b+64≤j→∀x,s'.dc j=some x→Ms s'.mem x)∧
 ∃cells,Np s'.mem b (l.take i) cells∧aFj s' (b+19) 5 cells (s'.tmp 5)∧(i=0→s'.dc (b+19)=none)
theorem anj(l:List Nd)(h:l.length≤2^20)(hn:∀n∈l,n.f.vs.length≤2^40∧n.f.ls.length≤2^30∧(∀q∈n.f.ls,q.length≤2^40)∧n.ins.length≤2^40)(s:PS)(b:Nat)(kl:uo s.mem b):
  Df P A.dw s [.d (l5 l),.d (.oq A.iy [])] (aCt s.mem b l):=by
 refine Uo A.mo A.Lj (by simp) b fun cx=>?_;show kq P zh _ _;simp only[zh,enter,l5,go_sem,aa,reduceCtorEq];refine we (fun s'=>avc s.mem b l l.length s') ?_ ?_
 ·refine fp l.length (fun i s'=>avc s.mem b l i s'∧s'.tmp 1= .d (.oq A.iy [])∧s'.tmp 8= .d (.gz 5 (l.map zw))∧s'.tmp 9= .d (.int ab l.length)∧s'.tmp 10= .d (.int ab i)) ?_ ?_
  ·simp only[avc,go_sem,aa,PS.mem,ag];refine⟨fun j _=>trivial,fun j=>trivial,fun j hj _=>(kl j (by omega)).1,fun j hj=>(kl j hj).2,fun j hj x hx=>?_,[],⟨rfl,fun k hk=>absurd hk (by simp)⟩,.inl ⟨rfl,rfl⟩,fun _=>(kl _ (by omega)).1⟩;rw[show s.dc j=none from(kl j (by omega)).1]at hx;cases hx
  rintro i s' hi ⟨⟨eb,low,vle,ayc,hmp,hwf,cells,hC,acc,h19⟩,f1,f8,f9,f10⟩;by_cases hlt:(i:Int)<l.length
  ·have dq:i<l.length:=by omega
   have wi:=dh ((i:Int)+1) (by omega) (by omega);have hg:=Kh dq
   have hm:l.getD i n0∈l:=by
    have e:l.getD i n0=l[i]:=by simp[cw,dq]
    rw[e];exact df _
   obtain⟨k1,k2,k3,k4⟩:=hn _ hm
   have htk:l.take (i+1)=l.take i++[l.getD i n0]:=by
    rw[gl];simp[dq,cw]
   generalize hnn:l.getD i n0=n at*
   simp only[vn,ku,ng]at hg;simp only[go_sem,aa,ae,reduceCtorEq,eb,f1,f8,f9,f10,hlt,hg,bp,ao,a7e,afk];refine ko (awa A n k1 k2 k3 k4 _ (b+64+64*i) ?_) ?_
   ·intro j hj;simp only[PS.mem,aj];rw[al (by omega),al (by omega)];refine⟨ayc j (by omega) ?_,hmp j (by omega)⟩;rintro(h1|⟨k,hk,h1|h1⟩)<;>omega
   rintro m1 r1 ⟨⟨aCf,aF2,aHm,aEx,ewf⟩,e,rfl,hN⟩;simp only[PS.mem,aj]at aCf aEx
   have A1:∀j,j<b+64+64*i→j≠b+7→m1.dc j=s'.dc j∧m1.av j=s'.av j∧m1.mp j=s'.mp j:=by
    intro j hj hne;have:=aCf j hj;simp only[al hne]at this;exact this
   have A4:∀j,s'.av j≤m1.av j:=by
    intro j;have:=aEx j;split at this
    ·rename_i h;subst h;omega
    exact this
   have h5:=hN.len;have B19:=A1 (b+19) (by omega) (by omega);refine axd (cs:=e) ?_ h5 ?_ ?_ ?_
   ·simp only[a5a,cu];exact aaa
   ·rfl
   ·exact hN.ax7 rfl
   simp only[a5a,PS.j6];refine aj1 (dm:=cells) (ys:=[e]) (yid:=b+18) (yver:=m1.av (b+18)+1) ?_ (by simp[aj,agr]) (by simp[aj]) (by simp[aj]) ?_ ?_ (by simp) ?_
   ·simp only[agr,aj,aa,bn];rcases acc with ⟨a1,a2⟩|⟨a1,a2,a3⟩
    ·exact .inl ⟨a1,a2⟩
    exact .inr ⟨a1,by simp[aj,a2,B19.2.1],by simp[aj,B19.1,a3]⟩
   ·simp only[W4,aJr,Hj];refine P8.ax7 (m:=⟨l7 m1.dc (b+18) (some (.qi 5 [e])),l7 m1.av (b+18) (m1.av (b+18)+1),m1.mp⟩) (hN.mono ?_ ?_ ?_ ?_) rfl<;>simp only[aj]<;>rw[al (by omega)]
   ·have:=hC.1;simp only[er]at this;simp only[cj,du];omega
   intro s3 g
   have hb3:∀j,s3.dc j=if j=b+19 then some (.qi 5 (cells++[e]))else if j=b+18 then some (.qi 5 [e])else m1.dc j:=by
    intro j;rw[g.dc];simp only[aj]
   have hv3:∀j,j≠b+19→s3.av j=if j=b+18 then m1.av (b+18)+1 else m1.av j:=by
    intro j hj;rw[g.av j hj];simp only[aj]
   have hv4:m1.av (b+19)≤s3.av (b+19):=by have:=g.aDb;simpa[aj]using this
   have hm3:s3.mp=m1.mp:=g.mp
   have e19:(cells++[e]).length=i+1:=by
    have:=hC.1;simp only[er]at this;simp only[db,cj,du];omega
   have Hb:∀j,j<b+64+64*i→j≠b+7→j≠b+18→j≠b+19→s3.dc j=s'.dc j∧s3.av j=s'.av j:=by
    intro j h1 h2 h3 h4;rw[hb3,hv3 j h4,al h4,al h3,al h3];exact⟨(A1 j h1 h2).1,(A1 j h1 h2).2.1⟩
   have Hn:Np s3.mem b (l.take (i+1)) (cells++[e]):=by
    have hcl:cells.length=i:=by
     have:=hC.1;simp only[er]at this;omega
    have htl:(l.take i).length=i:=by simp only[er];omega
    refine⟨by rw[e19,htk];simp only[db,cj,du,htl],fun k hk=>?_⟩;rw[htk]at hk⊢;simp only[db,cj,du,htl]at hk;rcases Wn.1 hk with hk'|rfl
    ·have g1:(l.take i++[n]).getD k n0=(l.take i).getD k n0:=by
      simp only[Au];rw[mj (by omega)]
     have g2:(cells++[e]).getD k []=cells.getD k []:=by
      simp only[Au];rw[mj (by omega)]
     rw[g1,g2];obtain⟨q1,q2⟩:=Hb (b+64+64*k+45) (by omega) (by omega) (by omega) (by omega);obtain⟨q3,q4⟩:=Hb (b+64+64*k+35) (by omega) (by omega) (by omega) (by omega);exact(hC.2 k (by omega)).mono q1 q2 q3 q4
    have g1:(l.take k++[n]).getD k n0=n:=by
     simp only[Au];rw[ly (by omega),htl,Vm];rfl
    have g2:(cells++[e]).getD k []=e:=by
     simp only[Au];rw[ly (by omega),hcl,Vm];rfl
    rw[g1,g2];refine hN.mono ?_ ?_ ?_ ?_
    ·show s3.dc _=_;rw[hb3,al (by omega),al (by omega)]
    ·show s3.av _=_;rw[hv3 _ (by omega),al (by omega)]
    ·show s3.dc _=_;rw[hb3,al (by omega),al (by omega)]
    show s3.av _=_;rw[hv3 _ (by omega),al (by omega)]
   have Hv:∀j,m1.av j≤s3.av j:=by
    intro j;by_cases hj:j=b+19
    ·subst hj;exact hv4
    rw[hv3 j hj];split
    ·rename_i h;subst h;omega
    exact ay _
   simp only[avc,go_sem,aa,reduceCtorEq,g.tmp,g.base,f1,f8,f9,f10,wi,dq]
   refine⟨⟨fun j hj=>?_,fun j=>ij (vle j) (ij (A4 j) (Hv j)),fun j hj hk=>?_,fun j hj=>?_,fun j hj x hx=>?_,cells++[e],Hn,.inr ⟨by simp,?_,by rw[hb3,bd rfl]⟩,fun h0=>by first|cases h0|omega|simp at h0⟩,by rw[lz];rfl⟩
   ·obtain⟨q1,q2⟩:=Hb j (by omega) (by omega) (by omega) (by omega);rw[q1,q2,hm3,(A1 j (by omega) (by omega)).2.2];exact low j hj
   ·rw[hb3,al (by omega),al (by omega)];rcases a4e j (b+64+64*i)with hj2|hj2
    ·rw[(A1 j hj2 (by omega)).1];refine ayc j hj fun hk'=>hk ?_;rcases hk' with h1|⟨k,h1,h2⟩
     ·exact .inl h1
     exact .inr ⟨k,by omega,h2⟩
    refine aF2 j hj2 fun h1=>hk (.inr ⟨i,by omega,h1⟩)
   ·rw[hm3];rcases a4e j (b+64+64*i)with hj2|hj2
    ·by_cases h7:j=b+7
     ·subst h7;have:=(aCf (b+7) (by omega)).2.2;rw[this];exact hmp _ hj
     rw[(A1 j hj2 h7).2.2];exact hmp j hj
    exact aHm j hj2
   ·rw[hb3,al (by omega),al (by omega)]at hx;rcases a4e j (b+64+64*i)with hj2|hj2
    ·rw[(A1 j hj2 (by omega)).1]at hx;exact(hwf j hj x hx).mono fun q=>ij (A4 q) (Hv q)
    exact(ewf j hj2 x hx).mono Hv
   simp only[]
  have:i=l.length:=by omega
  subst this;simp only[avc,go_sem,aa,reduceCtorEq,PS.mem,eb,f9,f10,hlt];exact⟨low,vle,ayc,hmp,hwf,cells,hC,acc,h19⟩
 rintro s' ⟨eb,low,vle,ayc,hmp,hwf,cells,hC,acc,h19⟩;simp only[go_sem,reduceCtorEq,PS.mem,eb];rw[eh]at hC
 have hK:∀i,a18 b l.length i→∀x,s'.dc i=some x→Ms s'.mem x:=by
  rintro i (rfl|⟨k,hk,h1⟩) x hx
  ·rcases acc with ⟨a1,a2⟩|⟨a1,a2,a3⟩
   ·have h0:l.length=0:=by rw[←hC.1,a1];rfl
    rw[h19 h0]at hx;cases hx
   rw[a3]at hx
   injection hx with hx
   subst hx;intro e he;obtain⟨k,hk,rfl⟩:=gf.1 he;have:=(hC.2 k (by rw[←hC.1];exact hk)).wf
   have e1:cells.getD k []=cells[k]:=by simp[cw,hk]
   rw[e1]at this;exact this
  exact hwf i (by omega) x hx
 have hr:Hh s'.mem (s'.tmp 5):=by
  rcases acc with ⟨a1,a2⟩|⟨a1,a2,a3⟩
  ·rw[a2];trivial
  rw[a2];exact ay _
 obtain⟨k1,k2⟩:=U4 (m:=s.mem) (s:={tmp:=l7 (l7 s'.tmp 21 (s'.tmp 5)) 4 (s'.tmp 5),dc:=s'.dc,av:=s'.av,mp:=s'.mp,base:=b,ctx:=s'.ctx}) (b:=b) (K:=a18 b l.length) (r:=s'.tmp 5) vle low hK hr;refine⟨_,_,⟨k2,cells,⟨hC.1,fun k hk=>?_⟩,?_⟩,rfl,k1⟩
 ·exact(hC.2 k hk).mono (by simp only[Mem.only];rw[bd (.inr (.inr ⟨k,hk,.inl rfl⟩))];rfl) rfl (by simp only[Mem.only];rw[bd (.inr (.inr ⟨k,hk,.inr rfl⟩))];rfl) rfl
 rcases acc with ⟨a1,a2⟩|⟨a1,a2,a3⟩
 ·have h0:l=[]:=j1 (by rw[←hC.1,a1];rfl);exact .inl ⟨h0,a2⟩
 refine .inr ⟨fun h0=>a1 (j1 (by rw[hC.1,h0];rfl)),by rw[a2,hC.1];rfl,?_⟩;simp only[Mem.only];rw[bd (.inr (.inl rfl))];exact a3
end
def Cz(m:Mem)(b:Nat)(t:Tr)(cs:List C):Prop:=∃cP cN cells,cs=[cP,cN]∧Own m (b+15) 2 (t.ps.map ti) cP∧Np m (b+32) t.ns cells∧
 ((t.ns=[]∧cN= .d .ck)∨(t.ns≠[]∧cN= .ref (b+51) (m.av (b+51)) t.ns.length∧m.dc (b+51)=some (.qi 5 cells)))
def aA3(b n:Nat)(i:Nat):Prop:=i=b+15∨a18 (b+32) n i
def aA7(m:Mem)(b:Nat)(t:Tr)(m':Mem)(r:V):Prop:=Ext m b (aA3 b t.ns.length) m'∧∃cs,r=mkv true cs∧Cz m' b t cs
theorem auj{m m2:Mem}{s:PS}{b:Nat}{t:Tr}{cP cN:C}{cells:List (List C)}(ht:s.tmp 2= .ie (b+2) (s.av (b+2)) 0)(hb:s.dc (b+2)=some (.loc [cP,cN]))(hx:Ext m (b+32) (a18 (b+32) t.ns.length) m2)
  (h1:∀i,i≠b+2→s.dc i=m2.dc i)(h2:s.av=m2.av)(h3:s.mp=m2.mp)(oP:Own s.mem (b+15) 2 (t.ps.map ti) cP)(oN:Np m2 (b+32) t.ns cells)
  (hN:(t.ns=[]∧cN= .d .ck)∨(t.ns≠[]∧cN= .ref (b+51) (m2.av (b+51)) t.ns.length∧m2.dc (b+51)=some (.qi 5 cells)))
  {m0:Mem}(X9:∀i,i<b→m.dc i=m0.dc i∧m.av i=m0.av i∧m.mp i=m0.mp i)(nh:∀i,m0.av i≤m.av i)(h15:∀x,m.dc (b+15)=some x→Ms m2 x):
  ∃m' r,aA7 m0 b t m' r∧pa s [.cell 2 2 true]=some r∧Leaves m0 s m' r:=by
 have e2:s.mem.av=m2.av:=h2;have hC:Np s.mem (b+32) t.ns cells:=⟨oN.1,fun k hk=>(oN.2 k hk).mono (h1 _ (by omega)) (by rw[e2]) (h1 _ (by omega)) (by rw[e2])⟩
 have hN':(t.ns=[]∧cN= .d .ck)∨(t.ns≠[]∧cN= .ref (b+51) (s.mem.av (b+51)) t.ns.length∧s.mem.dc (b+51)=some (.qi 5 cells)):=by
  rcases hN with h|⟨q0,q1,q2⟩
  ·exact .inl h
  exact .inr ⟨q0,by rw[e2];exact q1,by rw[←q2];exact h1 _ (by omega)⟩
 have wfx:∀x,Ms m2 x→Ms s.mem x:=fun x hx=>hx.mono fun i=>by rw[e2];exact ay _
 obtain⟨k1,k2⟩:=U4 (m:=m0) (s:=s) (b:=b) (K:=aA3 b t.ns.length) (r:=mkv true [cP,cN]) (fun i=>by
   rw[h2];exact ij (nh i) (hx.av i)) (fun i hi=>by
   rw[h1 i (by omega),h2,h3,(hx.low i (by omega)).1,(hx.low i (by omega)).2.1,(hx.low i (by omega)).2.2]
   exact X9 i hi) (fun i hi x hxx=>by
   rcases hi with rfl|hi
   ·rw[h1 _ (by omega),(hx.low (b+15) (by omega)).1]at hxx;exact wfx _ (h15 x hxx)
   ·have hge:b+32≤i:=by rcases hi with rfl|⟨k,hk,rfl|rfl⟩<;>omega
    rw[h1 _ (by omega)]at hxx
    exact wfx _ (hx.wf i hge x hxx)) (a06 fun c hc=>by
   simp only[fb,l8,or_false]at hc;rcases hc with rfl|rfl
   ·exact oP.wf
   rcases hN' with ⟨_,rfl⟩|⟨_,rfl,_⟩
   ·trivial
   exact ay _)
 refine⟨_,_,⟨k2,_,rfl,cP,cN,cells,rfl,a5f oP (.inl rfl),⟨hC.1,fun k hk=>(hC.2 k hk).mono ?_ rfl ?_ rfl⟩,?_⟩,?_,k1⟩
 ·simp only[Mem.only];rw[bd (.inr (.inr (.inr ⟨k,hk,.inl rfl⟩)))]
 ·simp only[Mem.only];rw[bd (.inr (.inr (.inr ⟨k,hk,.inr rfl⟩)))]
 ·rcases hN' with h|⟨q0,q1,q2⟩
  ·exact .inl h
  refine .inr ⟨q0,q1,?_⟩;simp only[Mem.only];rw[bd (.inr (.inr (.inl rfl)))];exact q2
 simp only[pa,sq,ht,C4,PS.cs,hb,cz];rfl
section
variable{P:Program}(A:Pr4 P)
theorem anm(t:Tr)(h:Mid t)(s:PS)(b:Nat)(kl:uo s.mem b):Df P A.lh s [.d (.agg (ud t))] (aA7 s.mem b t):=by
 refine Uo A.mo A.Z0 (by simp) b fun cx=>?_;show kq P (Js A.fk A.dw A.iy) _ _;obtain⟨h1,h2,h3⟩:=h
 have hns:∀n∈t.ns,n.f.vs.length≤2^40∧n.f.ls.length≤2^30∧(∀q∈n.f.ls,q.length≤2^40)∧n.ins.length≤2^40:=fun n hn=>by
  obtain⟨k1,k2,k3,k4⟩:=h3 n hn
  exact⟨by omega,by omega,fun q hq=>by have:=k3 q hq;omega,by omega⟩
 have hcl:=fun s b=>a4c (P:=P) A.mo (sz:=2) (by_:=24) (z:=[.str ⟨#[]⟩,.int ab 0]) A.F0 (dm:=t.ps.map ti) (by simp[ti,D.one]) (by simp only[ag];omega) s b;simp only[Js,enter,ud,jq,ahr,go_sem,aa,ae,ah]
 repeat' (refine aLt ?_ ?_)
 all_goals
  refine ko (hcl _ (b+10)) ?_;rintro m1 r1 (⟨e1,rfl,rfl⟩|⟨rfl,rfl⟩)
 all_goals
  simp only[go_sem,aa,ae,PS.j6,PS.mem,Mem.put,rv,ag];refine ko (anj A t.ns (by omega) hns _ (b+32) ?_) ?_;intro i hi;simp only[PS.mem,aj]
  (repeat' rw[al (by omega)])
  exact kl i (by omega)
 all_goals
  rintro m2 r2 ⟨hx,cells,hC,hv⟩;have B2:=hx.low (b+2) (by omega);have B15:=hx.low (b+15) (by omega);simp only[PS.mem,aj,fu,aa,reduceIte]at B2 B15;obtain⟨B2b,B2v,B2m⟩:=B2;obtain⟨aCx,aCw,aJ8⟩:=B15;have hfb:=(kl (b+15) (by omega)).1;simp only[PS.mem]at hfb;rcases hv with ⟨q0,rfl⟩|⟨q0,rfl,q1⟩
 all_goals
  have aEn:=hC.1;simp only[go_sem,aa,ae,ah,reduceCtorEq,PS.j6,rv,fg,ag,B2b,B2v,aCx,aCw]
  try simp only[go_sem,aa,ae,ah,reduceCtorEq,fg,ag,B2b,B2v,aCx,aCw,q1,aEn]
  refine auj (cells:=cells) ?_ (cu _ _ _) hx (fun i hi=>gj _ _ _ _ hi) rfl rfl ?_ hC ?_ (fun i hi=>?_) (fun i=>?_) (fun x hx2=>?_)
  ·simp[aj,B2v]
  ·first|exact .inl ⟨e1,rfl⟩|exact .inr ⟨by simp[PS.mem,aCw],by simp[PS.mem,aj,aCx]⟩
  ·first|exact .inl ⟨q0,rfl⟩|exact .inr ⟨q0,rfl,q1⟩
  ·simp only[PS.mem,aj];refine⟨?_,?_,trivial⟩<;>(repeat' rw[al (by omega)])
  ·simp only[PS.mem,aj]
   (repeat' split)<;>first|omega|(subst_vars;omega)
  simp only[PS.mem,aj,fu,aa,reduceIte,hfb]at hx2
  first|(cases hx2;done)|(injection hx2 with hx2;subst hx2;trivial)
end
def ad7(sz by_:Nat)(z:List D):dn:=
 (.seq (
 .region [⟨some 6,.ji (.c .ck),none,[]⟩] false []) (
 (.seq (
  .region [⟨some 8,.ji (.t 0),none,[]⟩,
   ⟨some 9,.ji (.t 1),none,[]⟩,
   ⟨some 10,.ji (.t 2),none,[]⟩,
   ⟨some 11,.ji (.t 0),none,[]⟩,
   ⟨some 12,.len .gz (.t 11),none,[]⟩,
   ⟨some 13,.Nx sz (.t 8) (some (.t 9)) (some (.t 10)) (some (.t 12)),none,[]⟩] false []) (
  (.seq (
  (.seq (
   .region [⟨some 14,.ji (.t 1),none,[]⟩,
    ⟨some 15,.ji (.t 2),none,[]⟩,
    ⟨some 16,.bin .eql (.t 14) (.t 15),none,[]⟩] false []) (
   (.cond (.t 16) (
   (.seq (
    .region [⟨some 17,.ji (.t 0),none,[]⟩,
     ⟨some 6,.ji (.t 17),none,[]⟩] false []) (
    .ret))) (
   .skip))))) (
  (.seq (
   .region [⟨some 18,.ji (.t 0),none,[]⟩,
    ⟨some 19,.len .gz (.t 18),none,[]⟩,
    ⟨some 7,.ji (.t 19),none,[]⟩] false []) (
   (.seq (
   .region [⟨some 20,.ji (.t 0),none,[]⟩,
    ⟨some 21,.ji (.t 1),none,[]⟩,
    ⟨some 22,.Nx sz (.t 20) none (some (.t 21)) none,none,[]⟩,
    ⟨some 23,.ji (.t 0),none,[]⟩,
    ⟨some 24,.ji (.t 2),none,[]⟩,
    ⟨some 25,.Nx sz (.t 23) (some (.t 24)) none none,none,[]⟩,
    ⟨some 26,.app sz by_ (.t 22) (.t 25),none,[]⟩,
    ⟨some 0,.ji (.t 26),none,[]⟩] true []) (
   (.seq (
    .region [⟨some 27,.ji (.t 0),none,[]⟩,
     ⟨some 28,.ji (.t 0),none,[]⟩,
     ⟨some 29,.len .gz (.t 28),none,[]⟩,
     ⟨some 30,.ji (.t 7),none,[]⟩,
     ⟨some 31,.Nx sz (.t 27) (some (.t 29)) (some (.t 30)) none,none,[]⟩,
     ⟨none,.clr z (.t 31),none,[]⟩] false []) (
    (.seq (
    .region [⟨some 32,.trim (.t 0),none,[]⟩,
     ⟨some 6,.ji (.t 32),none,[]⟩] false []) (
    .ret))))))))))))))
section
variable{P:Program}
theorem a7c(hm:P.follows .mixedOrders=true){f:Nat}{sz by_:Nat}{z:List D}(hf:ff P f {imm:=[],xc:=[],ce:=[],cf:=[],cr:=[],kp:=[13,22,25,31,32],cv:=[],dyn:=[],od:=[]}=some (ad7 sz by_ z,[.tmp 6],33))
  {dm:List (List D)}{i:Nat}(hi:i<dm.length)(hz:z.length=sz)(hz1:z.all D.one=true)(ho:∀e∈dm,e.all D.one=true)(hl:dm.length≤2^30){m:Mem}{id av:Nat}(hb:m.dc id=some (.arr sz dm))(hv:m.av id=av)(b:Nat):
  qm P f m [.ref id av dm.length,.d (.int ab i),.d (.int ab ((i:Int)+1))] (m.put id (av+1) (.arr sz (dm.eraseIdx i))) (.ref id (av+1) (dm.length-1)):=by
 subst hv;refine lu hm hf (by simp) b (fun c=>?_) (Mem.Lu (by omega)) Mem.Qr (fun i es hi=> .inl hi) (by simp[Hh,Mem.put,cu]);show kq P (ad7 sz by_ z) (xv m [.tmp 6] _ _) _
 have h0:0<dm.length:=by omega
 have hj:((i:Int)+1).toNat=i+1:=by omega
 have hj0:(0:Int)≤(i:Int)+1:=by omega
 have hne:((i:Int)==(i:Int)+1)=false:=by rw[beq_eq_false_iff_ne];omega
 have h1:i+1≤dm.length:=by omega
 have h2:i≤i+1:=by omega
 have h3:i≤dm.length:=by omega
 have Bm:(((dm.drop (i+1)).take (dm.length-(i+1))).all fun e=>e.all D.one)=true:=dj.2 fun e he=>ho e (aJo (Xr he));have hT:aLs (dm.length-(i+1)) (aLq (i+1) dm)=aLq (i+1) dm:=vl (by simp);rw[hT]at Bm
 have hE:i+1+(dm.length-(i+1))=dm.length:=by omega
 have hF:min i dm.length=i:=by omega
 have hG:dm.length-(dm.length-1)=1:=by omega
 have hI:dm.length-1+1=dm.length:=by omega
 have hH:min (dm.length-1) dm.length=dm.length-1:=by omega
 have hX:(dm.take i++dm.drop (i+1)).length=dm.length-1:=by simp only[db,er,yu];omega
 have hU:∀Y:List (List D),aLs (dm.length-1) (dm.take i++dm.drop (i+1)++Y)=dm.eraseIdx i:=fun Y=>by
  rw[aJl hX,ru]
 have hW:∀Y Z:List (List D),aLs (dm.length-1) (dm.eraseIdx i++Y++Z)=dm.eraseIdx i:=fun Y Z=>by
  rw[po];exact aJl (by rw[ru];exact hX)
 have hLE:(dm.eraseIdx i).length=dm.length-1:=by rw[ru];exact hX
 have hA:i+1-i=1:=by omega
 have hB:dm.length-(i+1)+(i+1)=dm.length:=by omega
 have hC2:i+(dm.length-(i+1))=dm.length-1:=by omega
 have hD:dm.length-1≤dm.length:=by omega
 simp only[ad7,enter,go_sem,aa,reduceCtorEq,di,hb,qh,bp,ao,hj,hj0,hne,h0,h1,h2,h3,Gb,Bm,B.De,imp_self,implies_true,aCz,Vk,hA,hC2,hD,er,yu,db,ay,hT,hE,hF,hG,hI,pa,sq,hz,hz1,Vm,Af,hU,hW,true_and,hLE];intro j;simp only[Mem.put,PS.mem,aj];by_cases hj:j=id
 ·subst hj;simp
 simp[hj]
end
structure WN where
 n:Nd
 x:D
 y:D
 hx:Wk x (vn n.f.vs)
 hy:Wk y (ng n.ins)
 ox:x.one=true
 oy:y.one=true
def Cc(z:WN):List D:=[.str z.n.n,.int ab z.n.f.k,z.x,ku z.n.f.ls,z.y]
def WN.of(n:Nd):WN:=⟨n,vn n.f.vs,ng n.ins,Wk.refl _,Wk.refl _,rfl,rfl⟩
theorem aAf(z:WN):(Cc z).length=(zw z.n).length∧∀(j:Nat) (x y:D),(Cc z)[j]? =some x→(zw z.n)[j]? =some y→Wk x y:=by
 refine⟨rfl,fun j x y hx hy=>?_⟩
 match j with
 |0=>simp[Cc,zw]at hx hy;subst hx hy;exact Wk.refl _
 |1=>simp[Cc,zw]at hx hy;subst hx hy;exact Wk.refl _
 |2=>simp[Cc,zw]at hx hy;subst hx hy;exact z.hx
 |3=>simp[Cc,zw]at hx hy;subst hx hy;exact Wk.refl _
 |4=>simp[Cc,zw]at hx hy;subst hx hy;exact z.hy
 |j+5=>simp[Cc]at hx
theorem J1(zs:List WN):Wk (.gz 5 (zs.map Cc)) (l5 (zs.map WN.n)):=by
 unfold l5;refine Wk.gz (by simp) fun i a b ha hb=>?_;simp only[a4f,cy,aq]at ha hb;obtain⟨z,hz,rfl⟩:=ha;obtain⟨z',hz',rfl⟩:=hb;rw[hz]at hz'
 injection hz' with hz'
 subst hz';exact aAf z
theorem L0{x y x' y':D}(h1:Wk x x')(h2:Wk y y'):Wk (.agg [x,y]) (.agg [x',y']):=by
 refine Wk.agg rfl fun i a b ha hb=>?_
 match i with
 |0=>simp at ha hb;subst ha hb;exact h1
 |1=>simp at ha hb;subst ha hb;exact h2
 |i+2=>simp at ha
structure Edt where
 k:Int
 n:ByteArray
 t:ByteArray
 v:Int
 nd:Nd
def pk(e:Edt):List D:=[.int ab e.k,.str e.n,.str e.t,.int ab e.v,.str e.nd.n,.int ab e.nd.f.k,vn e.nd.f.vs,ku e.nd.f.ls,ng e.nd.ins]
def T0(m:Mem)(u lo:Nat)(ps:List Pm)(zs:List WN):Prop:=
 ∃pid nj cP cN,lo≤pid∧lo≤nj∧pid≠nj∧m.dc u=some (.loc [cP,cN])∧Own m pid 2 (ps.map ti) cP∧Own m nj 5 (zs.map Cc) cN
def KOk(P:Program)(f:Nat)(e:Edt)(ps ps':List Pm)(zs zs':List WN)(code:Int):Prop:=
 ∀(m:Mem) (u lo b:Nat),T0 m u lo ps zs→u<lo→lo≤b→uo m b→∃m',qm P f m [.ie u (m.av u) 0,.d (.agg (pk e))] m' (.d (.int ab code))∧T0 m' u lo ps' zs'∧
  (∀j,j<lo→j≠u→m'.dc j=m.dc j∧m'.av j=m.av j)∧m'.av u=m.av u∧m'.mp=m.mp∧uo m' (b+64)
theorem uo.mono{m:Mem}{b c:Nat}(h:uo m b)(hc:b≤c):uo m c:=fun i hi=>h i (by omega)
theorem uo.lt{m:Mem}{b i:Nat}{x:B}(h:uo m b)(hx:m.dc i=some x):i<b:=by
 rcases a4e i b with h'|h'
 ·exact h'
 rw[(h i h').1]at hx;cases hx
section
variable{P:Program}(A:Pr P)
theorem Fy{ps:List Pm}{ns:List Nd}(s:ByteArray)(hl:ps.length≤2^50){x y:D}(hx:Wk x (jq ps))(hy:Wk y (l5 ns)):iz P A.j9 [.agg [x,y],.str s] (.int ab (wg ⟨ps,ns⟩ s)):=by
 refine(aw9 A ⟨ps,ns⟩ s hl).args rfl fun i a b ha hb=>?_
 match i with
 |0=>simp at ha hb;subst ha hb;exact L0 hx hy
 |1=>simp at ha hb;subst ha hb;exact Wk.refl _
 |i+2=>simp at ha
theorem Jg{ps:List Pm}{ns:List Nd}(s:ByteArray)(hl:ns.length≤2^50){x y:D}(hx:Wk x (jq ps))(hy:Wk y (l5 ns)):iz P A.kj [.agg [x,y],.str s] (.int ab (xu ⟨ps,ns⟩ s)):=by
 refine(aw8 A ⟨ps,ns⟩ s hl).args rfl fun i a b ha hb=>?_
 match i with
 |0=>simp at ha hb;subst ha hb;exact L0 hx hy
 |1=>simp at ha hb;subst ha hb;exact Wk.refl _
 |i+2=>simp at ha
end
theorem tq{m:Mem}{b j:Nat}(kl:uo m b)(hj:b≤j){bk:Nat→Option B}{vr:Nat→Nat}{x:B}{v:Nat}(h1:bk=l7 m.dc j (some x))(h2:vr=l7 m.av j v):Clean ⟨bk,vr,m.mp⟩ m:=by
 subst h1 h2;intro i;by_cases hi:i=j
 ·subst hi;exact⟨.inl (kl _ hj).1,.inl (kl _ hj).2⟩
 exact⟨.inr ⟨(gj _ _ _ _ hi).symm,(gj _ _ _ _ hi).symm⟩,.inr ⟨rfl,(gj _ _ _ _ hi).symm⟩⟩
theorem K1(t:Tr)(s:ByteArray):wg t s= -1∨∃k,k<t.ps.length∧wg t s=(k:Int):=by
 rcases Sq (fun i=>kz (t.ps.getD i p0).n s) t.ps.length with ⟨h,_⟩|⟨i,hi,h,_⟩
 ·exact .inl h
 exact .inr ⟨i,hi,h⟩
theorem Jz(t:Tr)(s:ByteArray):xu t s= -1∨∃k,k<t.ns.length∧xu t s=(k:Int):=by
 rcases Sq (fun i=>kz (t.ns.getD i n0).n s) t.ns.length with ⟨h,_⟩|⟨i,hi,h,_⟩
 ·exact .inl h
 exact .inr ⟨i,hi,h⟩
section
variable{P:Program}(A:Pr4 P)
theorem ay5(e:Edt)(ps:List Pm)(zs:List WN)(hl:ps.length≤2^50)(hI:wg ⟨ps,zs.map WN.n⟩ e.n= -1):KOk P A.s9 e ps ps zs zs 4:=by
 intro m u lo b hT hu hlo kl;obtain⟨pid,nj,cP,cN,hp,hn,hne,zx,oP,oN⟩:=id hT;refine⟨m,?_,hT,fun _ _ _=>⟨rfl,rfl⟩,rfl,rfl,kl.mono (by omega)⟩;have hf3:=(kl (b+3) (by omega)).1;have ue:=fun(x y:D) (hx:Wk x (jq ps)) (hy:Wk y (l5 (zs.map WN.n)))=>Fy A.toPr e.n hl hx hy;rw[hI]at ue
 have qt:u≠b+3:=by omega
 refine lu A.mo A.Pw (by simp) b (fun c=>?_) (fun i=>ay _) (fun i b' rp=> .inl rp) (fun i es hi=> .inl hi) trivial;show kq P (te A.j9) (xv m [.tmp 4] _ _) _
 have hp3:∀{x},m.dc pid=some x→pid≠b+3:=fun h=>by have:=kl.lt h;omega
 have hn3:∀{x},m.dc nj=some x→nj≠b+3:=fun h=>by have:=kl.lt h;omega
 rcases oP with ⟨e1,rfl⟩|⟨rfl,Ca⟩<;>rcases oN with ⟨e2,rfl⟩|⟨rfl,zy⟩
 ·simp only[te,enter,pk,go_sem,aa,ae,ah,reduceCtorEq,ca,zx,qt];refine jr (ds:=[.agg [.ck,.ck],.str e.n]) ?_ (ue _ _ (by rw[fa.1 e1];exact Wk.ck) (by rw[fa.1 e2];exact Wk.ck)) rfl ?_
  ·simp only[go_sem]
  simp only[go_sem,aa,de,cq,reduceCtorEq,PS.mem,pa,sq];exact tq kl (by omega) rfl rfl
 ·simp only[te,enter,pk,go_sem,aa,ae,ah,reduceCtorEq,ca,zx,qt];refine jr (ds:=[.agg [.ck,.gz 5 (zs.map Cc)],.str e.n]) ?_ (ue _ _ (by rw[fa.1 e1];exact Wk.ck) (J1 zs)) rfl ?_
  ·simp only[go_sem,ju,oh,zy,hn3 zy]
  simp only[go_sem,aa,de,cq,reduceCtorEq,PS.mem,ag,pa,sq];exact tq kl (by omega) rfl rfl
 ·simp only[te,enter,pk,go_sem,aa,ae,ah,reduceCtorEq,ca,zx,qt];refine jr (ds:=[.agg [.gz 2 (ps.map ti),.ck],.str e.n]) ?_ (ue _ _ (Wk.refl _) (by rw[fa.1 e2];exact Wk.ck)) rfl ?_
  ·simp only[go_sem,ju,oh,Ca,hp3 Ca]
  simp only[go_sem,aa,de,cq,reduceCtorEq,PS.mem,ag,pa,sq];exact tq kl (by omega) rfl rfl
 simp only[te,enter,pk,go_sem,aa,ae,ah,reduceCtorEq,ca,zx,qt];refine jr (ds:=[.agg [.gz 2 (ps.map ti),.gz 5 (zs.map Cc)],.str e.n]) ?_ (ue _ _ (Wk.refl _) (J1 zs)) rfl ?_
 ·simp only[go_sem,ju,oh,zy,Ca,hn3 zy,hp3 Ca]
 simp only[go_sem,aa,de,cq,reduceCtorEq,PS.mem,ag,pa,sq];exact tq kl (by omega) rfl rfl
theorem ay1(e:Edt)(ps:List Pm)(zs:List WN)(hl:ps.length≤2^50)(hI:wg ⟨ps,zs.map WN.n⟩ e.n= -1):KOk P A.s7 e ps ps zs zs 4:=by
 intro m u lo b hT hu hlo kl;obtain⟨pid,nj,cP,cN,hp,hn,hne,zx,oP,oN⟩:=id hT;refine⟨m,?_,hT,fun _ _ _=>⟨rfl,rfl⟩,rfl,rfl,kl.mono (by omega)⟩;have hf3:=(kl (b+3) (by omega)).1;have ue:=fun(x y:D) (hx:Wk x (jq ps)) (hy:Wk y (l5 (zs.map WN.n)))=>Fy A.toPr e.n hl hx hy;rw[hI]at ue
 have qt:u≠b+3:=by omega
 refine lu A.mo A.Pv (by simp) b (fun c=>?_) (fun i=>ay _) (fun i b' rp=> .inl rp) (fun i es hi=> .inl hi) trivial;show kq P (td A.j9 A.nq) (xv m [.tmp 4] _ _) _
 have hp3:∀{x},m.dc pid=some x→pid≠b+3:=fun h=>by have:=kl.lt h;omega
 have hn3:∀{x},m.dc nj=some x→nj≠b+3:=fun h=>by have:=kl.lt h;omega
 rcases oP with ⟨e1,rfl⟩|⟨rfl,Ca⟩<;>rcases oN with ⟨e2,rfl⟩|⟨rfl,zy⟩
 ·simp only[td,enter,pk,go_sem,aa,ae,ah,reduceCtorEq,ca,zx,qt];refine jr (ds:=[.agg [.ck,.ck],.str e.n]) ?_ (ue _ _ (by rw[fa.1 e1];exact Wk.ck) (by rw[fa.1 e2];exact Wk.ck)) rfl ?_
  ·simp only[go_sem]
  simp only[go_sem,aa,de,cq,reduceCtorEq,PS.mem,pa,sq];exact tq kl (by omega) rfl rfl
 ·simp only[td,enter,pk,go_sem,aa,ae,ah,reduceCtorEq,ca,zx,qt];refine jr (ds:=[.agg [.ck,.gz 5 (zs.map Cc)],.str e.n]) ?_ (ue _ _ (by rw[fa.1 e1];exact Wk.ck) (J1 zs)) rfl ?_
  ·simp only[go_sem,ju,oh,zy,hn3 zy]
  simp only[go_sem,aa,de,cq,reduceCtorEq,PS.mem,ag,pa,sq];exact tq kl (by omega) rfl rfl
 ·simp only[td,enter,pk,go_sem,aa,ae,ah,reduceCtorEq,ca,zx,qt];refine jr (ds:=[.agg [.gz 2 (ps.map ti),.ck],.str e.n]) ?_ (ue _ _ (Wk.refl _) (by rw[fa.1 e2];exact Wk.ck)) rfl ?_
  ·simp only[go_sem,ju,oh,Ca,hp3 Ca]
  simp only[go_sem,aa,de,cq,reduceCtorEq,PS.mem,ag,pa,sq];exact tq kl (by omega) rfl rfl
 simp only[td,enter,pk,go_sem,aa,ae,ah,reduceCtorEq,ca,zx,qt];refine jr (ds:=[.agg [.gz 2 (ps.map ti),.gz 5 (zs.map Cc)],.str e.n]) ?_ (ue _ _ (Wk.refl _) (J1 zs)) rfl ?_
 ·simp only[go_sem,ju,oh,zy,Ca,hn3 zy,hp3 Ca]
 simp only[go_sem,aa,de,cq,reduceCtorEq,PS.mem,ag,pa,sq];exact tq kl (by omega) rfl rfl
theorem axx(e:Edt)(ps:List Pm)(zs:List WN)(hl:zs.length≤2^50)(hI:xu ⟨ps,zs.map WN.n⟩ e.n= -1):KOk P A.s5 e ps ps zs zs 4:=by
 intro m u lo b hT hu hlo kl;obtain⟨pid,nj,cP,cN,hp,hn,hne,zx,oP,oN⟩:=id hT;refine⟨m,?_,hT,fun _ _ _=>⟨rfl,rfl⟩,rfl,rfl,kl.mono (by omega)⟩;have hf3:=(kl (b+3) (by omega)).1;have ue:=fun(x y:D) (hx:Wk x (jq ps)) (hy:Wk y (l5 (zs.map WN.n)))=>Jg A.toPr e.n (by simpa using hl) hx hy;rw[hI]at ue
 have qt:u≠b+3:=by omega
 refine lu A.mo A.Pu (by simp) b (fun c=>?_) (fun i=>ay _) (fun i b' rp=> .inl rp) (fun i es hi=> .inl hi) trivial;show kq P (tc A.kj A.oe) (xv m [.tmp 4] _ _) _
 have hp3:∀{x},m.dc pid=some x→pid≠b+3:=fun h=>by have:=kl.lt h;omega
 have hn3:∀{x},m.dc nj=some x→nj≠b+3:=fun h=>by have:=kl.lt h;omega
 rcases oP with ⟨e1,rfl⟩|⟨rfl,Ca⟩<;>rcases oN with ⟨e2,rfl⟩|⟨rfl,zy⟩
 ·simp only[tc,enter,pk,go_sem,aa,ae,ah,reduceCtorEq,ca,zx,qt];refine jr (ds:=[.agg [.ck,.ck],.str e.n]) ?_ (ue _ _ (by rw[fa.1 e1];exact Wk.ck) (by rw[fa.1 e2];exact Wk.ck)) rfl ?_
  ·simp only[go_sem]
  simp only[go_sem,aa,de,cq,reduceCtorEq,PS.mem,pa,sq];exact tq kl (by omega) rfl rfl
 ·simp only[tc,enter,pk,go_sem,aa,ae,ah,reduceCtorEq,ca,zx,qt];refine jr (ds:=[.agg [.ck,.gz 5 (zs.map Cc)],.str e.n]) ?_ (ue _ _ (by rw[fa.1 e1];exact Wk.ck) (J1 zs)) rfl ?_
  ·simp only[go_sem,ju,oh,zy,hn3 zy]
  simp only[go_sem,aa,de,cq,reduceCtorEq,PS.mem,ag,pa,sq];exact tq kl (by omega) rfl rfl
 ·simp only[tc,enter,pk,go_sem,aa,ae,ah,reduceCtorEq,ca,zx,qt];refine jr (ds:=[.agg [.gz 2 (ps.map ti),.ck],.str e.n]) ?_ (ue _ _ (Wk.refl _) (by rw[fa.1 e2];exact Wk.ck)) rfl ?_
  ·simp only[go_sem,ju,oh,Ca,hp3 Ca]
  simp only[go_sem,aa,de,cq,reduceCtorEq,PS.mem,ag,pa,sq];exact tq kl (by omega) rfl rfl
 simp only[tc,enter,pk,go_sem,aa,ae,ah,reduceCtorEq,ca,zx,qt];refine jr (ds:=[.agg [.gz 2 (ps.map ti),.gz 5 (zs.map Cc)],.str e.n]) ?_ (ue _ _ (Wk.refl _) (J1 zs)) rfl ?_
 ·simp only[go_sem,ju,oh,zy,Ca,hn3 zy,hp3 Ca]
 simp only[go_sem,aa,de,cq,reduceCtorEq,PS.mem,ag,pa,sq];exact tq kl (by omega) rfl rfl
theorem ay2(e:Edt)(ps:List Pm)(zs:List WN)(hl:ps.length≤2^50){k:Nat}(hI:wg ⟨ps,zs.map WN.n⟩ e.n=(k:Int)):KOk P A.s8 e ps ps zs zs 7:=by
 intro m u lo b hT hu hlo kl;obtain⟨pid,nj,cP,cN,hp,hn,hne,zx,oP,oN⟩:=id hT;refine⟨m,?_,hT,fun _ _ _=>⟨rfl,rfl⟩,rfl,rfl,kl.mono (by omega)⟩;have hf3:=(kl (b+3) (by omega)).1;have ue:=fun(x y:D) (hx:Wk x (jq ps)) (hy:Wk y (l5 (zs.map WN.n)))=>Fy A.toPr e.n hl hx hy;rw[hI]at ue
 have qt:u≠b+3:=by omega
 refine lu A.mo A.K8 (by simp) b (fun c=>?_) (fun i=>ay _) (fun i b' rp=> .inl rp) (fun i es hi=> .inl hi) trivial;show kq P (p8 A.j9) (xv m [.tmp 4] _ _) _
 have hp3:∀{x},m.dc pid=some x→pid≠b+3:=fun h=>by have:=kl.lt h;omega
 have hn3:∀{x},m.dc nj=some x→nj≠b+3:=fun h=>by have:=kl.lt h;omega
 rcases oP with ⟨e1,rfl⟩|⟨rfl,Ca⟩<;>rcases oN with ⟨e2,rfl⟩|⟨rfl,zy⟩
 ·simp only[p8,enter,pk,go_sem,aa,ae,ah,reduceCtorEq,ca,zx,qt];refine jr (ds:=[.agg [.ck,.ck],.str e.n]) ?_ (ue _ _ (by rw[fa.1 e1];exact Wk.ck) (by rw[fa.1 e2];exact Wk.ck)) rfl ?_
  ·simp only[go_sem]
  simp only[go_sem,aa,reduceCtorEq,PS.mem,pa,sq,ao];exact tq kl (by omega) rfl rfl
 ·simp only[p8,enter,pk,go_sem,aa,ae,ah,reduceCtorEq,ca,zx,qt];refine jr (ds:=[.agg [.ck,.gz 5 (zs.map Cc)],.str e.n]) ?_ (ue _ _ (by rw[fa.1 e1];exact Wk.ck) (J1 zs)) rfl ?_
  ·simp only[go_sem,ju,oh,zy,hn3 zy]
  simp only[go_sem,aa,reduceCtorEq,PS.mem,ag,pa,sq,ao];exact tq kl (by omega) rfl rfl
 ·simp only[p8,enter,pk,go_sem,aa,ae,ah,reduceCtorEq,ca,zx,qt];refine jr (ds:=[.agg [.gz 2 (ps.map ti),.ck],.str e.n]) ?_ (ue _ _ (Wk.refl _) (by rw[fa.1 e2];exact Wk.ck)) rfl ?_
  ·simp only[go_sem,ju,oh,Ca,hp3 Ca]
  simp only[go_sem,aa,reduceCtorEq,PS.mem,ag,pa,sq,ao];exact tq kl (by omega) rfl rfl
 simp only[p8,enter,pk,go_sem,aa,ae,ah,reduceCtorEq,ca,zx,qt];refine jr (ds:=[.agg [.gz 2 (ps.map ti),.gz 5 (zs.map Cc)],.str e.n]) ?_ (ue _ _ (Wk.refl _) (J1 zs)) rfl ?_
 ·simp only[go_sem,ju,oh,zy,Ca,hn3 zy,hp3 Ca]
 simp only[go_sem,aa,reduceCtorEq,PS.mem,ag,pa,sq,ao];exact tq kl (by omega) rfl rfl
end
def aei(ps:List Pm)(k:Nat)(v:Int):List Pm:=ps.set k ⟨(ps.getD k p0).n,v⟩
theorem Je{α β:Type}(f:α→β)(l:List α)(k:Nat)(x:α):(l.map f).set k (f x)=(l.set k x).map f:=by
 rw[aL2]
theorem Own.ref{m:Mem}{id sz:Nat}{dm:List (List D)}{c:C}(h:Own m id sz dm c)(hne:dm≠[]):c= .ref id (m.av id) dm.length∧m.dc id=some (.arr sz dm):=by
 rcases h with ⟨h1,_⟩|h
 ·exact absurd h1 hne
 exact h
theorem ahf{ps:List Pm}{k:Nat}(h:k<ps.length):(ps.map ti)[k]? =some [.str (ps.getD k p0).n,.int ab (ps.getD k p0).v]:=by
 simp[cw,h,ti]
def Jy(m:Mem)(u pid w:Nat)(ps:List Pm)(cN:C):Mem:=(m.put pid w (.arr 2 (ps.map ti))).put u (m.av u) (.loc [.ref pid w ps.length,cN])
def Jx(m:Mem)(u nj w:Nat)(zs:List WN)(cP:C):Mem:=(m.put nj w (.arr 5 (zs.map Cc))).put u (m.av u) (.loc [cP,.ref nj w zs.length])
theorem am0{P:Program}(hm:P.follows .mixedOrders=true){f:Nat}{an:Ann}{rc:dn}{nt:Nat}(hf:ff P f an=some (rc,[.tmp 4],nt))(hnt:2≤nt){e:Edt}{code:Int}{ps':List Pm}{zs:List WN}{m:Mem}{u lo b pid nj w:Nat}{cN:C}
  (hu:u<lo)(hlo:lo≤b)(kl:uo m b)(hp:lo≤pid)(hn:lo≤nj)(hne:pid≠nj)(oN:Own m nj 5 (zs.map Cc) cN)(Ca:pid<b+64)(hw:m.av pid≤w)
  (h:∀c,kq P rc (xv m [.tmp 4] (Jy m u pid w ps' cN) (.d (.int ab code))) (enter m [.ie u (m.av u) 0,.d (.agg (pk e))] b c)):
  ∃m',qm P f m [.ie u (m.av u) 0,.d (.agg (pk e))] m' (.d (.int ab code))∧T0 m' u lo ps' zs∧(∀j,j<lo→j≠u→m'.dc j=m.dc j∧m'.av j=m.av j)∧m'.av u=m.av u∧m'.mp=m.mp∧uo m' (b+64):=by
 have hup:u≠pid:=by omega
 have hun:u≠nj:=by omega
 have oN':Own (Jy m u pid w ps' cN) nj 5 (zs.map Cc) cN:=oN.mono (by simp only[Jy,Mem.put,aj];rw[al (by omega),al (by omega)]) (by simp only[Jy,Mem.put,aj];rw[al (by omega),al (by omega)])
 have hv:∀i,m.av i≤(Jy m u pid w ps' cN).av i:=fun i=>by
  simp only[Jy,Mem.put,aj]
  (repeat' split)<;>first|omega|(subst_vars;omega)
 refine⟨Jy m u pid w ps' cN,lu hm hf hnt b h hv (fun i x hx=>?_) (fun i es hi=> .inl hi) trivial,⟨pid,nj,.ref pid w ps'.length,cN,hp,hn,hne,by simp only[Jy,Mem.put,cu],.inr ⟨?_,?_⟩,oN'⟩,fun j h1 h2=>⟨?_,?_⟩,by simp only[Jy,Mem.put,cu],rfl,fun i hi=>⟨?_,(kl i (by omega)).2⟩⟩
 ·simp only[Jy,Mem.put,aj]at hx;split at hx
  ·injection hx with hx
   subst hx;refine .inr fun c hc=>?_;simp only[fb,l8,or_false]at hc;rcases hc with rfl|rfl
   ·show w≤(Jy m u pid w ps' cN).av pid;simp only[Jy,Mem.put,aj];rw[al (by omega),bd trivial];exact ay _
   exact oN'.wf
  split at hx
  ·injection hx with hx;subst hx;exact .inr trivial
  exact .inl hx
 ·simp only[Jy,Mem.put,aj,ag];rw[al (by omega),bd trivial]
 ·simp only[Jy,Mem.put,aj];rw[al (by omega),bd trivial]
 ·simp only[Jy,Mem.put,aj];rw[al h2,al (by omega)]
 ·simp only[Jy,Mem.put,aj];rw[al h2,al (by omega)]
 simp only[Jy,Mem.put,aj];rw[al (by omega),al (by omega)];exact(kl i (by omega)).1
theorem th{s m':Mem}{b:Nat}(X9:∀i,i<b→m'.dc i=s.dc i∧m'.av i=s.av i∧m'.mp i=s.mp i)(aEj:∀i,b≤i→(m'.dc i=none∨(m'.dc i=s.dc i∧m'.av i=s.av i))∧m'.mp i=none):Clean s m':=by
 intro i;rcases a4e i b with h|h
 ·obtain⟨h1,h2,h3⟩:=X9 i h;exact⟨.inr ⟨h1,h2⟩,.inr ⟨h3,h2⟩⟩
 obtain⟨h1,h2⟩:=aEj i h;exact⟨h1,.inl h2⟩
section
variable{P:Program}(A:Pr4 P)
theorem ay4(e:Edt)(ps:List Pm)(zs:List WN)(hl:ps.length≤2^50){k:Nat}(hk:k<ps.length)(hI:wg ⟨ps,zs.map WN.n⟩ e.n=(k:Int)):KOk P A.s9 e ps (aei ps k e.v) zs zs 0:=by
 intro m u lo b hT hu hlo kl;obtain⟨pid,nj,cP,cN,hp,hn,hne,zx,oP,oN⟩:=hT
 have atd:ps.map ti≠[]:=fun h=>by have:=congrArg Gz h;simp at this;subst this;simp at hk
 obtain⟨rfl,Ca⟩:=oP.ref atd;have ue:=fun(x y:D) (hx:Wk x (jq ps)) (hy:Wk y (l5 (zs.map WN.n)))=>Fy A.toPr e.n hl hx hy;rw[hI]at ue
 have qt:u≠b+3:=by omega
 have hp3:pid≠b+3:=by have:=kl.lt Ca;omega
 have hup:u≠pid:=by omega
 have O3:(ps.map ti).set k [.str (ps.getD k p0).n,.int ab e.v]=(aei ps k e.v).map ti:=by
  unfold aei;rw[←Je];rfl
 refine am0 A.mo A.Pw (by simp) hu hlo kl hp hn hne oN (by have:=kl.lt Ca;omega) (ay _) fun c=>?_
 show kq P (te A.j9) (xv m [.tmp 4] _ _) _
 have hn3:∀{x},m.dc nj=some x→nj≠b+3:=fun h=>by have:=kl.lt h;omega
 have hg:=ahf hk
 have hk0:¬((k:Int)<0):=by omega
 have hkI:(k:Int)<ps.length:=by omega
 have ate:=kl.lt Ca
 have Er:∀(x:B),Clean ⟨l7 (l7 m.dc (b+3) (some x)) pid (some (.arr 2 ((aei ps k e.v).map ti))),l7 m.av (b+3) (m.av (b+3)+1),m.mp⟩ (Jy m u pid (m.av pid) (aei ps k e.v) cN):=by
  intro x;refine th (b:=b) (fun i hi=>?_) (fun i hi=>?_)
  ·simp only[Jy,Mem.put,aj,aei,Ie]
   refine⟨?_,?_,trivial⟩<;>(repeat' split)<;>first|rfl|omega|(subst_vars;first|rfl|omega|(rw[zx];simp))
  simp only[Jy,Mem.put,aj];rw[al (by omega),al (by omega)];exact⟨.inl (kl i hi).1,(kl i hi).2⟩
 rcases oN with ⟨e2,rfl⟩|⟨rfl,zy⟩
 ·simp only[te,enter,pk,go_sem,aa,ae,ah,reduceCtorEq,ca,zx,qt];refine jr (ds:=[.agg [.gz 2 (ps.map ti),.ck],.str e.n]) ?_ (ue _ _ (Wk.refl _) (by rw[fa.1 e2];exact Wk.ck)) rfl ?_
  ·simp only[go_sem,ju,oh,Ca,hp3]
  simp only[go_sem,aa,ae,ah,reduceCtorEq,ca,PS.mem,ag,pa,sq,Ca,hp3,ao,bp,hg,hk0,zx,qt,hkI,O3];have h9:=Er
  try simp only[ag]at h9
  exact h9 _
 simp only[te,enter,pk,go_sem,aa,ae,ah,reduceCtorEq,ca,zx,qt];refine jr (ds:=[.agg [.gz 2 (ps.map ti),.gz 5 (zs.map Cc)],.str e.n]) ?_ (ue _ _ (Wk.refl _) (J1 zs)) rfl ?_
 ·simp only[go_sem,ju,oh,Ca,hp3,zy,hn3 zy]
 simp only[go_sem,aa,ae,ah,reduceCtorEq,ca,PS.mem,ag,pa,sq,Ca,hp3,ao,bp,hg,hk0,zx,qt,hkI,O3];have h9:=Er
 try simp only[ag]at h9
 exact h9 _
end
section
variable{P:Program}(A:Pr4 P)
theorem ay3(e:Edt)(ps:List Pm)(zs:List WN)(hl:ps.length≤2^20)(hI:wg ⟨ps,zs.map WN.n⟩ e.n= -1):KOk P A.s8 e ps (ps++[⟨e.n,e.v⟩]) zs zs 0:=by
 intro m u lo b hT hu hlo kl;obtain⟨pid,nj,cP,cN,hp,hn,hne,zx,oP,oN⟩:=hT
 have ue:=fun(x y:D) (hx:Wk x (jq ps)) (hy:Wk y (l5 (zs.map WN.n)))=>Fy A.toPr e.n (show ps.length≤2^50 by omega) hx hy
 rw[hI]at ue
 have qt:u≠b+3:=by omega
 have hp3:∀{x},m.dc pid=some x→pid≠b+3:=fun h=>by have:=kl.lt h;omega
 have hn3:∀{x},m.dc nj=some x→nj≠b+3:=fun h=>by have:=kl.lt h;omega
 have atr:(b+23=b+3)=False:=by simp
 have aC5:=kl (b+23) (by omega)
 have ajm:u≠b+23:=by omega
 rcases oP with ⟨e1,rfl⟩|⟨rfl,Ca⟩
 ·have e0:ps=[]:=fa.1 e1;subst e0
  have oN2:∃axl,lo≤axl∧b+23≠axl∧Own m axl 5 (zs.map Cc) cN:=by
   rcases oN with ⟨e2,rfl⟩|⟨rfl,zy⟩
   ·exact⟨b+24,by omega,by omega,.inl ⟨e2,rfl⟩⟩
   exact⟨nj,hn,by have:=kl.lt zy;omega,.inr ⟨rfl,zy⟩⟩
  obtain⟨axl,hn2,a2x,oN2⟩:=oN2;refine am0 A.mo A.K8 (by simp) (pid:=b+23) (w:=m.av (b+23)+1) hu hlo kl (by omega) hn2 a2x oN2 (by omega) (by omega) fun c=>?_;show kq P (p8 A.j9) (xv m [.tmp 4] _ _) _
  have Er:∀(x:B),Clean ⟨l7 (l7 (l7 m.dc (b+3) (some x)) (b+23) (some (.arr 2 [[.str e.n,.int ab e.v]]))) u (some (.loc [.ref (b+23) (m.av (b+23)+1) 1,cN])),l7 (l7 m.av (b+3) (m.av (b+3)+1)) (b+23) (m.av (b+23)+1),m.mp⟩ (Jy m u (b+23) (m.av (b+23)+1) ([]++[⟨e.n,e.v⟩]) cN):=by
   intro x;refine th (b:=b) (fun i hi=>?_) (fun i hi=>?_)
   ·simp only[Jy,Mem.put,aj]
    refine⟨?_,?_,trivial⟩<;>(repeat' split)<;>first|rfl|omega|(subst_vars;first|rfl|omega|simp)
   simp only[Jy,Mem.put,aj];by_cases h23:i=b+23
   ·subst h23;simp only[al ajm.symm,cz];exact⟨.inr ⟨by simp[ti],by simp⟩,aC5.2⟩
   rw[al (by omega),al h23];exact⟨.inl (kl i hi).1,(kl i hi).2⟩
  have w23:(1:Nat)*24≤2^47:=by omega
  rcases oN with ⟨e2,rfl⟩|⟨rfl,zy⟩
  ·simp only[p8,enter,pk,go_sem,aa,ae,ah,reduceCtorEq,ca,zx,qt];refine jr (ds:=[.agg [.ck,.ck],.str e.n]) ?_ (ue _ _ Wk.ck (by rw[fa.1 e2];exact Wk.ck)) rfl ?_
   ·simp only[go_sem]
   simp only[go_sem,aa,ew,cq,ey,ae,ah,reduceCtorEq,di,ca,PS.mem,fg,pa,sq,zx,qt,atr,ajm,Gb,qh,w23,Pz];exact Er _
  simp only[p8,enter,pk,go_sem,aa,ae,ah,reduceCtorEq,ca,zx,qt];refine jr (ds:=[.agg [.ck,.gz 5 (zs.map Cc)],.str e.n]) ?_ (ue _ _ Wk.ck (J1 zs)) rfl ?_
  ·simp only[go_sem,ju,oh,zy,hn3 zy]
  have hlt:=kl.lt zy
  have aJ2:nj≠b+23:=by omega
  simp only[go_sem,aa,ew,cq,ey,ae,ah,reduceCtorEq,di,ca,PS.mem,fg,ag,pa,sq,zx,qt,atr,ajm,Gb,qh,w23,Pz];have h9:=Er;simp only[ag]at h9;exact h9 _
 have hlt:=kl.lt Ca
 have hup:u≠pid:=by omega
 refine am0 A.mo A.K8 (by simp) (pid:=pid) (w:=m.av pid) hu hlo kl hp hn hne oN (by omega) (by omega) fun c=>?_;show kq P (p8 A.j9) (xv m [.tmp 4] _ _) _
 have Er:∀(x:B),Clean ⟨l7 (l7 (l7 m.dc (b+3) (some x)) pid (some (.arr 2 (ps.map ti++[[.str e.n,.int ab e.v]])))) u (some (.loc [.ref pid (m.av pid) (ps.length+1),cN])),l7 m.av (b+3) (m.av (b+3)+1),m.mp⟩ (Jy m u pid (m.av pid) (ps++[⟨e.n,e.v⟩]) cN):=by
  intro x;refine th (b:=b) (fun i hi=>?_) (fun i hi=>?_)
  ·simp only[Jy,Mem.put,aj,db,cj,du,fl,dr,gn,ti]
   refine⟨?_,?_,trivial⟩<;>(repeat' split)<;>first|rfl|omega|(subst_vars;first|rfl|omega|simp)
  simp only[Jy,Mem.put,aj];rw[al (by omega),al (by omega)];exact⟨.inl (kl i hi).1,(kl i hi).2⟩
 have w23:(ps.length+1)*24≤2^47:=by omega
 rcases oN with ⟨e2,rfl⟩|⟨rfl,zy⟩
 ·simp only[p8,enter,pk,go_sem,aa,ae,ah,reduceCtorEq,ca,zx,qt];refine jr (ds:=[.agg [.gz 2 (ps.map ti),.ck],.str e.n]) ?_ (ue _ _ (Wk.refl _) (by rw[fa.1 e2];exact Wk.ck)) rfl ?_
  ·simp only[go_sem,ju,oh,Ca,hp3 Ca]
  simp only[go_sem,aa,ew,cq,ae,ah,reduceCtorEq,di,ca,PS.mem,fg,ag,pa,sq,zx,qt,hup,Ca,hp3 Ca,Gb,qh,w23,db];exact Er _
 simp only[p8,enter,pk,go_sem,aa,ae,ah,reduceCtorEq,ca,zx,qt];refine jr (ds:=[.agg [.gz 2 (ps.map ti),.gz 5 (zs.map Cc)],.str e.n]) ?_ (ue _ _ (Wk.refl _) (J1 zs)) rfl ?_
 ·simp only[go_sem,ju,oh,Ca,hp3 Ca,zy,hn3 zy]
 simp only[go_sem,aa,ew,cq,ae,ah,reduceCtorEq,di,ca,PS.mem,fg,ag,pa,sq,zx,qt,hup,Ca,hp3 Ca,Gb,qh,w23,db];have h9:=Er;simp only[ag]at h9;exact h9 _
theorem ay0(e:Edt)(ps:List Pm)(zs:List WN)(hl:ps.length≤2^20){k:Nat}(hk:k<ps.length)(hI:wg ⟨ps,zs.map WN.n⟩ e.n=(k:Int)):KOk P A.s7 e ps (ps.eraseIdx k) zs zs 0:=by
 intro m u lo b hT hu hlo kl;obtain⟨pid,nj,cP,cN,hp,hn,hne,zx,oP,oN⟩:=hT
 have ue:=fun(x y:D) (hx:Wk x (jq ps)) (hy:Wk y (l5 (zs.map WN.n)))=>Fy A.toPr e.n (show ps.length≤2^50 by omega) hx hy
 rw[hI]at ue
 have qt:u≠b+3:=by omega
 have hp3:∀{x},m.dc pid=some x→pid≠b+3:=fun h=>by have:=kl.lt h;omega
 have hn3:∀{x},m.dc nj=some x→nj≠b+3:=fun h=>by have:=kl.lt h;omega
 have atd:ps.map ti≠[]:=fun h=>by have:=congrArg Gz h;simp at this;subst this;simp at hk
 obtain⟨rfl,Ca⟩:=oP.ref atd;have hlt:=kl.lt Ca
 have hup:u≠pid:=by omega
 refine am0 A.mo A.Pv (by simp) (pid:=pid) (w:=m.av pid+1) hu hlo kl hp hn hne oN (by omega) (by omega) fun c=>?_;show kq P (td A.j9 A.nq) (xv m [.tmp 4] _ _) _
 have ag4:(ps.map ti).eraseIdx k=(ps.eraseIdx k).map ti:=by rw[ru,ru,fl,Lr,aA9]
 have a6a:(ps.eraseIdx k).length=ps.length-1:=aD0 hk
 have Er:∀(x:B),Clean ⟨l7 (l7 (l7 m.dc (b+3) (some x)) pid (some (.arr 2 ((ps.eraseIdx k).map ti)))) u (some (.loc [.ref pid (m.av pid+1) (ps.length-1),cN])),l7 (l7 m.av (b+3) (m.av (b+3)+1)) pid (m.av pid+1),m.mp⟩ (Jy m u pid (m.av pid+1) (ps.eraseIdx k) cN):=by
  intro x;refine th (b:=b) (fun i hi=>?_) (fun i hi=>?_)
  ·simp only[Jy,Mem.put,aj,a6a]
   refine⟨?_,?_,trivial⟩<;>(repeat' split)<;>first|rfl|omega|(subst_vars;first|rfl|omega|simp)
  simp only[Jy,Mem.put,aj];rw[al (by omega),al (by omega)];exact⟨.inl (kl i hi).1,(kl i hi).2⟩
 have hk0:¬((k:Int)<0):=by omega
 have wk1:=dh ((k:Int)+1) (by omega) (by omega)
 have atp:∀mm:Mem,mm.dc pid=some (.arr 2 (ps.map ti))→mm.av pid=m.av pid→qm P A.nq mm [.ref pid (m.av pid) (ps.map ti).length,.d (.int ab k),.d (.int ab ((k:Int)+1))] (mm.put pid (m.av pid+1) (.arr 2 ((ps.map ti).eraseIdx k))) (.ref pid (m.av pid+1) ((ps.map ti).length-1)):=
  fun mm h1 h2=>a7c A.mo (sz:=2) (by_:=24) (z:=[.str ⟨#[]⟩,.int ab 0]) A.Mk (by simpa using hk) rfl rfl (by simp[ti,D.one]) (by simp only[ag];omega) h1 h2 (b+100)
 rcases oN with ⟨e2,rfl⟩|⟨rfl,zy⟩
 ·simp only[td,enter,pk,go_sem,aa,ae,ah,reduceCtorEq,ca,zx,qt];refine jr (ds:=[.agg [.gz 2 (ps.map ti),.ck],.str e.n]) ?_ (ue _ _ (Wk.refl _) (by rw[fa.1 e2];exact Wk.ck)) rfl ?_
  ·simp only[go_sem,ju,oh,Ca,hp3 Ca]
  simp only[go_sem,aa,ae,ah,reduceCtorEq,ca,zx,qt,hk0,wk1];refine lr (atp _ (by simp only[PS.mem,aj,hp3 Ca,bn,Ca]) (by simp only[PS.mem,aj,hp3 Ca,bn])) ?_;simp only[go_sem,aa,ae,ah,ca,PS.j6,PS.mem,Mem.put,fg,ag,pa,sq,zx,qt,hup,Ca,hp3 Ca,ag4,a6a];exact Er _
 simp only[td,enter,pk,go_sem,aa,ae,ah,reduceCtorEq,ca,zx,qt];refine jr (ds:=[.agg [.gz 2 (ps.map ti),.gz 5 (zs.map Cc)],.str e.n]) ?_ (ue _ _ (Wk.refl _) (J1 zs)) rfl ?_
 ·simp only[go_sem,ju,oh,Ca,hp3 Ca,zy,hn3 zy]
 simp only[go_sem,aa,ae,ah,reduceCtorEq,ca,zx,qt,hk0,wk1];refine lr (atp _ (by simp only[PS.mem,aj,hp3 Ca,bn,Ca]) (by simp only[PS.mem,aj,hp3 Ca,bn])) ?_;simp only[go_sem,aa,ae,ah,ca,PS.j6,PS.mem,Mem.put,fg,ag,pa,sq,zx,qt,hup,Ca,hp3 Ca,ag4,a6a];have h9:=Er;simp only[ag]at h9;exact h9 _
end
theorem am1{P:Program}(hm:P.follows .mixedOrders=true){f:Nat}{an:Ann}{rc:dn}{nt:Nat}(hf:ff P f an=some (rc,[.tmp 4],nt))(hnt:2≤nt){e:Edt}{code:Int}{ps:List Pm}{zs':List WN}{m:Mem}{u lo b pid nj w:Nat}{cP:C}
  (hu:u<lo)(hlo:lo≤b)(kl:uo m b)(hp:lo≤pid)(hn:lo≤nj)(hne:pid≠nj)(oP:Own m pid 2 (ps.map ti) cP)(zy:nj<b+64)(hw:m.av nj≤w)
  (h:∀c,kq P rc (xv m [.tmp 4] (Jx m u nj w zs' cP) (.d (.int ab code))) (enter m [.ie u (m.av u) 0,.d (.agg (pk e))] b c)):
  ∃m',qm P f m [.ie u (m.av u) 0,.d (.agg (pk e))] m' (.d (.int ab code))∧T0 m' u lo ps zs'∧(∀j,j<lo→j≠u→m'.dc j=m.dc j∧m'.av j=m.av j)∧m'.av u=m.av u∧m'.mp=m.mp∧uo m' (b+64):=by
 have hup:u≠pid:=by omega
 have hun:u≠nj:=by omega
 have oP':Own (Jx m u nj w zs' cP) pid 2 (ps.map ti) cP:=oP.mono (by simp only[Jx,Mem.put,aj];rw[al (by omega),al (by omega)]) (by simp only[Jx,Mem.put,aj];rw[al (by omega),al (by omega)])
 have hv:∀i,m.av i≤(Jx m u nj w zs' cP).av i:=fun i=>by
  simp only[Jx,Mem.put,aj]
  (repeat' split)<;>first|omega|(subst_vars;omega)
 refine⟨Jx m u nj w zs' cP,lu hm hf hnt b h hv (fun i x hx=>?_) (fun i es hi=> .inl hi) trivial,⟨pid,nj,cP,.ref nj w zs'.length,hp,hn,hne,by simp only[Jx,Mem.put,cu],oP',.inr ⟨?_,?_⟩⟩,fun j h1 h2=>⟨?_,?_⟩,by simp only[Jx,Mem.put,cu],rfl,fun i hi=>⟨?_,(kl i (by omega)).2⟩⟩
 ·simp only[Jx,Mem.put,aj]at hx;split at hx
  ·injection hx with hx
   subst hx;refine .inr fun c hc=>?_;simp only[fb,l8,or_false]at hc;rcases hc with rfl|rfl
   ·exact oP'.wf
   show w≤(Jx m u nj w zs' _).av nj;simp only[Jx,Mem.put,aj];rw[al (by omega),bd trivial];exact ay _
  split at hx
  ·injection hx with hx;subst hx;exact .inr trivial
  exact .inl hx
 ·simp only[Jx,Mem.put,aj,ag];rw[al (by omega),bd trivial]
 ·simp only[Jx,Mem.put,aj];rw[al (by omega),bd trivial]
 ·simp only[Jx,Mem.put,aj];rw[al h2,al (by omega)]
 ·simp only[Jx,Mem.put,aj];rw[al h2,al (by omega)]
 simp only[Jx,Mem.put,aj];rw[al (by omega),al (by omega)];exact(kl i (by omega)).1
def W3(n:Nd):Prop:=n.f.vs.length≤2^30∧n.f.ls.length≤2^30∧(∀q∈n.f.ls,q.length≤2^30)∧n.ins.length≤2^30
theorem az7{zs:List WN}{k:Nat}(h:k<zs.length):(zs.map Cc)[k]? =some [.str zs[k].n.n,.int ab zs[k].n.f.k,zs[k].x,ku zs[k].n.f.ls,zs[k].y]:=by
 simp[h,Cc]
section
variable{P:Program}(A:Pr4 P)
theorem axy(e:Edt)(ps:List Pm)(zs:List WN)(hl:zs.length≤2^20)(hm:W3 e.nd){k:Nat}(hk:k<zs.length)(hI:xu ⟨ps,zs.map WN.n⟩ e.nd.n=(k:Int)):KOk P A.s6 e ps ps zs (zs.set k (WN.of e.nd)) 0:=by
 intro m u lo b hT hu hlo kl;obtain⟨pid,nj,cP,cN,hp,hn,hne,zx,oP,oN⟩:=hT
 have ue:=fun(x y:D) (hx:Wk x (jq ps)) (hy:Wk y (l5 (zs.map WN.n)))=>Jg A.toPr e.nd.n (show(zs.map WN.n).length≤2^50 by simp only[ag];omega) hx hy
 rw[hI]at ue
 have qt:u≠b+3:=by omega
 have hp3:∀{x},m.dc pid=some x→pid≠b+3:=fun h=>by have:=kl.lt h;omega
 have hn3:∀{x},m.dc nj=some x→nj≠b+3:=fun h=>by have:=kl.lt h;omega
 have Yu:=abn A.toPr e.nd (by have:=hm.1;omega) hm.2.1 (fun l hl=>by have:=hm.2.2.1 l hl;omega) (by have:=hm.2.2.2;omega)
 simp only[zw,vn,ku,ng]at Yu
 have aBy:zs.map Cc≠[]:=fun h=>by have:=congrArg Gz h;simp at this;subst this;simp at hk
 obtain⟨rfl,zy⟩:=oN.ref aBy;have hlt:=kl.lt zy
 have hun:u≠nj:=by omega
 refine am1 A.mo A.K7 (by simp) (nj:=nj) (w:=m.av nj) hu hlo kl hp hn hne oP (by omega) (by omega) fun c=>?_;show kq P (rz A.kj A.iy) (xv m [.tmp 4] _ _) _
 have O3:(zs.map Cc).set k [.str e.nd.n,.int ab e.nd.f.k,.gz 3 (e.nd.f.vs.map Gj),.gz 1 (e.nd.f.ls.map fun l=>[xf l]),.gz 1 (e.nd.ins.map ss)]=(zs.set k (WN.of e.nd)).map Cc:=by
  rw[←Je];rfl
 have hg:=az7 hk
 have hk0:(k:Int)≥0:=by omega
 have hkI:(k:Int)<zs.length:=by omega
 have Er:∀(x:B),Clean ⟨l7 (l7 m.dc (b+3) (some x)) nj (some (.arr 5 ((zs.set k (WN.of e.nd)).map Cc))),l7 m.av (b+3) (m.av (b+3)+1),m.mp⟩ (Jx m u nj (m.av nj) (zs.set k (WN.of e.nd)) cP):=by
  intro x;refine th (b:=b) (fun i hi=>?_) (fun i hi=>?_)
  ·simp only[Jx,Mem.put,aj,Ie]
   refine⟨?_,?_,trivial⟩<;>(repeat' split)<;>first|rfl|omega|(subst_vars;first|rfl|omega|(rw[zx];simp))
  simp only[Jx,Mem.put,aj];rw[al (by omega),al (by omega)];exact⟨.inl (kl i hi).1,(kl i hi).2⟩
 rcases oP with ⟨e1,rfl⟩|⟨rfl,Ca⟩
 ·simp only[rz,enter,pk,vn,ku,ng,go_sem,aa,ae,ah,reduceCtorEq,ca,zx,qt];refine jr (ds:=[.agg [.ck,.gz 5 (zs.map Cc)],.str e.nd.n]) ?_ (ue _ _ (by rw[fa.1 e1];exact Wk.ck) (J1 zs)) rfl ?_
  ·simp only[go_sem,ju,oh,zy,hn3 zy]
  simp only[go_sem,aa,ae,reduceCtorEq,ca,zx,qt,hk0,ag];refine ft Yu ?_;simp only[go_sem,aa,ae,PS.mem,ag,pa,sq,zy,hn3 zy,hk0,hkI,hg,bp,O3,ag];have h9:=Er
  try simp only[ag]at h9
  exact h9 _
 simp only[rz,enter,pk,vn,ku,ng,go_sem,aa,ae,ah,reduceCtorEq,ca,zx,qt];refine jr (ds:=[.agg [.gz 2 (ps.map ti),.gz 5 (zs.map Cc)],.str e.nd.n]) ?_ (ue _ _ (Wk.refl _) (J1 zs)) rfl ?_
 ·simp only[go_sem,ju,oh,zy,hn3 zy,Ca,hp3 Ca]
 simp only[go_sem,aa,ae,reduceCtorEq,ca,zx,qt,hk0,ag];refine ft Yu ?_;simp only[go_sem,aa,ae,PS.mem,ag,pa,sq,zy,hn3 zy,hk0,hkI,hg,bp,O3,ag];have h9:=Er
 try simp only[ag]at h9
 exact h9 _
theorem axz(e:Edt)(ps:List Pm)(zs:List WN)(hl:zs.length≤2^20)(hm:W3 e.nd)(hI:xu ⟨ps,zs.map WN.n⟩ e.nd.n= -1):KOk P A.s6 e ps ps zs (zs++[WN.of e.nd]) 0:=by
 intro m u lo b hT hu hlo kl;obtain⟨pid,nj,cP,cN,hp,hn,hne,zx,oP,oN⟩:=hT
 have ue:=fun(x y:D) (hx:Wk x (jq ps)) (hy:Wk y (l5 (zs.map WN.n)))=>Jg A.toPr e.nd.n (show(zs.map WN.n).length≤2^50 by simp only[ag];omega) hx hy
 rw[hI]at ue
 have qt:u≠b+3:=by omega
 have hp3:∀{x},m.dc pid=some x→pid≠b+3:=fun h=>by have:=kl.lt h;omega
 have hn3:∀{x},m.dc nj=some x→nj≠b+3:=fun h=>by have:=kl.lt h;omega
 have Yu:=abn A.toPr e.nd (by have:=hm.1;omega) hm.2.1 (fun l hl=>by have:=hm.2.2.1 l hl;omega) (by have:=hm.2.2.2;omega)
 simp only[zw,vn,ku,ng]at Yu
 have atr:(b+33=b+3)=False:=by simp
 have aC5:=kl (b+33) (by omega)
 have ajm:u≠b+33:=by omega
 have aJ1:∀{x},m.dc pid=some x→pid≠b+33:=fun h=>by have:=kl.lt h;omega
 rcases oN with ⟨e2,rfl⟩|⟨rfl,zy⟩
 ·have e0:zs=[]:=fa.1 e2;subst e0
  have oP2:∃ax2,lo≤ax2∧ax2≠b+33∧Own m ax2 2 (ps.map ti) cP:=by
   rcases oP with ⟨e1,rfl⟩|⟨rfl,Ca⟩
   ·exact⟨b+34,by omega,by omega,.inl ⟨e1,rfl⟩⟩
   exact⟨pid,hp,by have:=kl.lt Ca;omega,.inr ⟨rfl,Ca⟩⟩
  obtain⟨ax2,hp2,a2x,oP2⟩:=oP2;refine am1 A.mo A.K7 (by simp) (nj:=b+33) (w:=m.av (b+33)+1) hu hlo kl hp2 (by omega) a2x oP2 (by omega) (by omega) fun c=>?_;show kq P (rz A.kj A.iy) (xv m [.tmp 4] _ _) _
  have Er:∀(x:B),Clean ⟨l7 (l7 (l7 m.dc (b+3) (some x)) (b+33) (some (.arr 5 [[.str e.nd.n,.int ab e.nd.f.k,.gz 3 (e.nd.f.vs.map Gj),.gz 1 (e.nd.f.ls.map fun l=>[xf l]),.gz 1 (e.nd.ins.map ss)]]))) u (some (.loc [cP,.ref (b+33) (m.av (b+33)+1) 1])),l7 (l7 m.av (b+3) (m.av (b+3)+1)) (b+33) (m.av (b+33)+1),m.mp⟩ (Jx m u (b+33) (m.av (b+33)+1) ([]++[WN.of e.nd]) cP):=by
   intro x;refine th (b:=b) (fun i hi=>?_) (fun i hi=>?_)
   ·simp only[Jx,Mem.put,aj]
    refine⟨?_,?_,trivial⟩<;>(repeat' split)<;>first|rfl|omega|(subst_vars;first|rfl|omega|simp)
   simp only[Jx,Mem.put,aj];by_cases h23:i=b+33
   ·subst h23;simp only[al ajm.symm,cz];exact⟨.inr ⟨rfl,by simp⟩,aC5.2⟩
   rw[al (by omega),al h23];exact⟨.inl (kl i hi).1,(kl i hi).2⟩
  have w23:(1:Nat)*96≤2^47:=by omega
  rcases oP with ⟨e1,rfl⟩|⟨rfl,Ca⟩
  ·simp only[rz,enter,pk,vn,ku,ng,go_sem,aa,ae,ah,reduceCtorEq,ca,zx,qt];refine jr (ds:=[.agg [.ck,.ck],.str e.nd.n]) ?_ (ue _ _ (by rw[fa.1 e1];exact Wk.ck) Wk.ck) rfl ?_
   ·simp only[go_sem]
   simp only[go_sem,aa,ew,cq,ae,reduceCtorEq,ca,zx,qt];refine ft Yu ?_;simp only[go_sem,aa,cq,ey,ae,reduceCtorEq,di,ca,PS.mem,fg,pa,sq,zx,qt,Gb,qh,Pz,atr,ajm,w23];have h9:=Er
   try simp only[ag]at h9
   exact h9 _
  simp only[rz,enter,pk,vn,ku,ng,go_sem,aa,ae,ah,reduceCtorEq,ca,zx,qt];refine jr (ds:=[.agg [.gz 2 (ps.map ti),.ck],.str e.nd.n]) ?_ (ue _ _ (Wk.refl _) Wk.ck) rfl ?_
  ·simp only[go_sem,ju,oh,Ca,hp3 Ca]
  simp only[go_sem,aa,ew,cq,ae,reduceCtorEq,ca,zx,qt];refine ft Yu ?_;simp only[go_sem,aa,cq,ey,ae,reduceCtorEq,di,ca,PS.mem,fg,ag,pa,sq,zx,qt,Gb,qh,Pz,atr,ajm,w23];have h9:=Er
  try simp only[ag]at h9
  exact h9 _
 have hlt:=kl.lt zy
 have hun:u≠nj:=by omega
 refine am1 A.mo A.K7 (by simp) (nj:=nj) (w:=m.av nj) hu hlo kl hp hn hne oP (by omega) (by omega) fun c=>?_;show kq P (rz A.kj A.iy) (xv m [.tmp 4] _ _) _
 have Er:∀(x:B),Clean ⟨l7 (l7 (l7 m.dc (b+3) (some x)) nj (some (.arr 5 (zs.map Cc++[[.str e.nd.n,.int ab e.nd.f.k,.gz 3 (e.nd.f.vs.map Gj),.gz 1 (e.nd.f.ls.map fun l=>[xf l]),.gz 1 (e.nd.ins.map ss)]])))) u (some (.loc [cP,.ref nj (m.av nj) (zs.length+1)])),l7 m.av (b+3) (m.av (b+3)+1),m.mp⟩ (Jx m u nj (m.av nj) (zs++[WN.of e.nd]) cP):=by
  intro x;refine th (b:=b) (fun i hi=>?_) (fun i hi=>?_)
  ·simp only[Jx,Mem.put,aj,db,cj,du,fl,dr,gn]
   refine⟨?_,?_,trivial⟩<;>(repeat' split)<;>first|rfl|omega|(subst_vars;first|rfl|omega|simp)
  simp only[Jx,Mem.put,aj];rw[al (by omega),al (by omega)];exact⟨.inl (kl i hi).1,(kl i hi).2⟩
 have w23:(zs.length+1)*96≤2^47:=by omega
 rcases oP with ⟨e1,rfl⟩|⟨rfl,Ca⟩
 ·simp only[rz,enter,pk,vn,ku,ng,go_sem,aa,ae,ah,reduceCtorEq,ca,zx,qt];refine jr (ds:=[.agg [.ck,.gz 5 (zs.map Cc)],.str e.nd.n]) ?_ (ue _ _ (by rw[fa.1 e1];exact Wk.ck) (J1 zs)) rfl ?_
  ·simp only[go_sem,ju,oh,zy,hn3 zy]
  simp only[go_sem,aa,ew,cq,ae,reduceCtorEq,ca,zx,qt];refine ft Yu ?_;simp only[go_sem,aa,cq,ae,di,ca,PS.mem,fg,ag,pa,sq,zx,qt,Gb,qh,db,Pz,zy,hn3 zy,hun,w23];have h9:=Er
  try simp only[ag]at h9
  exact h9 _
 simp only[rz,enter,pk,vn,ku,ng,go_sem,aa,ae,ah,reduceCtorEq,ca,zx,qt];refine jr (ds:=[.agg [.gz 2 (ps.map ti),.gz 5 (zs.map Cc)],.str e.nd.n]) ?_ (ue _ _ (Wk.refl _) (J1 zs)) rfl ?_
 ·simp only[go_sem,ju,oh,zy,hn3 zy,Ca,hp3 Ca]
 simp only[go_sem,aa,ew,cq,ae,reduceCtorEq,ca,zx,qt];refine ft Yu ?_;simp only[go_sem,aa,cq,ae,di,ca,PS.mem,fg,ag,pa,sq,zx,qt,Gb,qh,db,Pz,zy,hn3 zy,hun,w23];have h9:=Er
 try simp only[ag]at h9
 exact h9 _
theorem axw(e:Edt)(ps:List Pm)(zs:List WN)(hl:zs.length≤2^20){k:Nat}(hk:k<zs.length)(hI:xu ⟨ps,zs.map WN.n⟩ e.n=(k:Int)):KOk P A.s5 e ps ps zs (zs.eraseIdx k) 0:=by
 intro m u lo b hT hu hlo kl;obtain⟨pid,nj,cP,cN,hp,hn,hne,zx,oP,oN⟩:=hT
 have ue:=fun(x y:D) (hx:Wk x (jq ps)) (hy:Wk y (l5 (zs.map WN.n)))=>Jg A.toPr e.n (show(zs.map WN.n).length≤2^50 by simp only[ag];omega) hx hy
 rw[hI]at ue
 have qt:u≠b+3:=by omega
 have hp3:∀{x},m.dc pid=some x→pid≠b+3:=fun h=>by have:=kl.lt h;omega
 have hn3:∀{x},m.dc nj=some x→nj≠b+3:=fun h=>by have:=kl.lt h;omega
 have aBy:zs.map Cc≠[]:=fun h=>by have:=congrArg Gz h;simp at this;subst this;simp at hk
 obtain⟨rfl,zy⟩:=oN.ref aBy;have hlt:=kl.lt zy
 have hun:u≠nj:=by omega
 refine am1 A.mo A.Pu (by simp) (nj:=nj) (w:=m.av nj+1) hu hlo kl hp hn hne oP (by omega) (by omega) fun c=>?_;show kq P (tc A.kj A.oe) (xv m [.tmp 4] _ _) _
 have ag4:(zs.map Cc).eraseIdx k=(zs.eraseIdx k).map Cc:=by rw[ru,ru,fl,Lr,aA9]
 have a6a:(zs.eraseIdx k).length=zs.length-1:=aD0 hk
 have Er:∀(x:B),Clean ⟨l7 (l7 (l7 m.dc (b+3) (some x)) nj (some (.arr 5 ((zs.eraseIdx k).map Cc)))) u (some (.loc [cP,.ref nj (m.av nj+1) (zs.length-1)])),l7 (l7 m.av (b+3) (m.av (b+3)+1)) nj (m.av nj+1),m.mp⟩ (Jx m u nj (m.av nj+1) (zs.eraseIdx k) cP):=by
  intro x;refine th (b:=b) (fun i hi=>?_) (fun i hi=>?_)
  ·simp only[Jx,Mem.put,aj,a6a]
   refine⟨?_,?_,trivial⟩<;>(repeat' split)<;>first|rfl|omega|(subst_vars;first|rfl|omega|simp)
  simp only[Jx,Mem.put,aj];rw[al (by omega),al (by omega)];exact⟨.inl (kl i hi).1,(kl i hi).2⟩
 have hk0:¬((k:Int)<0):=by omega
 have wk1:=dh ((k:Int)+1) (by omega) (by omega)
 have Bm:∀e∈zs.map Cc,e.all D.one=true:=fun e he=>by
  obtain⟨z,_,rfl⟩:=gr.1 he;simp only[Cc,W4,aJr,z.ox,z.oy,Hj];rfl
 have atp:∀mm:Mem,mm.dc nj=some (.arr 5 (zs.map Cc))→mm.av nj=m.av nj→qm P A.oe mm [.ref nj (m.av nj) (zs.map Cc).length,.d (.int ab k),.d (.int ab ((k:Int)+1))] (mm.put nj (m.av nj+1) (.arr 5 ((zs.map Cc).eraseIdx k))) (.ref nj (m.av nj+1) ((zs.map Cc).length-1)):=
  fun mm h1 h2=>a7c A.mo (sz:=5) (by_:=96) (z:=[.str ⟨#[]⟩,.int ab 0,.ck,.ck,.ck]) A.Nj (by simpa using hk) rfl rfl Bm (by simp only[ag];omega) h1 h2 (b+100)
 rcases oP with ⟨e1,rfl⟩|⟨rfl,Ca⟩
 ·simp only[tc,enter,pk,vn,ku,ng,go_sem,aa,ae,ah,reduceCtorEq,ca,zx,qt];refine jr (ds:=[.agg [.ck,.gz 5 (zs.map Cc)],.str e.n]) ?_ (ue _ _ (by rw[fa.1 e1];exact Wk.ck) (J1 zs)) rfl ?_
  ·simp only[go_sem,ju,oh,zy,hn3 zy]
  simp only[go_sem,aa,ae,reduceCtorEq,ca,zx,qt,hk0,wk1];refine lr (atp _ (by simp only[PS.mem,aj,hn3 zy,bn,zy]) (by simp only[PS.mem,aj,hn3 zy,bn])) ?_;simp only[go_sem,aa,ae,ca,PS.j6,PS.mem,Mem.put,fg,ag,pa,sq,ag4,a6a,zy,hn3 zy,hun,zx,qt];have h9:=Er
  try simp only[ag]at h9
  exact h9 _
 simp only[tc,enter,pk,vn,ku,ng,go_sem,aa,ae,ah,reduceCtorEq,ca,zx,qt];refine jr (ds:=[.agg [.gz 2 (ps.map ti),.gz 5 (zs.map Cc)],.str e.n]) ?_ (ue _ _ (Wk.refl _) (J1 zs)) rfl ?_
 ·simp only[go_sem,ju,oh,zy,hn3 zy,Ca,hp3 Ca]
 simp only[go_sem,aa,ae,reduceCtorEq,ca,zx,qt,hk0,wk1];refine lr (atp _ (by simp only[PS.mem,aj,hn3 zy,bn,zy]) (by simp only[PS.mem,aj,hn3 zy,bn])) ?_;simp only[go_sem,aa,ae,ca,PS.j6,PS.mem,Mem.put,fg,ag,pa,sq,ag4,a6a,zy,hn3 zy,hun,zx,qt];have h9:=Er
 try simp only[ag]at h9
 exact h9 _
end
theorem Yi{α β:Type}(f:α→Option β)(g:α→β)(l:List α)(h:∀x∈l,f x=some (g x)):O1 (l.map f)=some (l.map g):=by
 induction l with
 |nil=>rfl
 |cons x r ih=>
  simp only[dr,O1,h x (by simp),ih fun y hy=>h y (by simp[hy])]
theorem akg(s:PS)(n:Nat)(x:D):deep s n (.d x)=some x:=by cases n<;>rfl
theorem ax4(s:PS)(n:Nat)(e:List D):O1 ((e.map C.d).map (deep s n))=some e:=by
 rw[a4f];have:=Yi (deep s n∘C.d) id e fun x _=>akg s n x
 rwa[aL7]at this
theorem Own.data{s:PS}{id sz:Nat}{dm:List (List D)}{c:C}(h:Own s.mem id sz dm c):∃x,Wk x (.gz sz dm)∧x.one=true∧(∀n,deep s (n+1) c=some x)∧oh s c=some x∧(∀ids,id∈ids→C.xc s ids c= .d x):=by
 rcases h with ⟨rfl,rfl⟩|⟨rfl,hb⟩
 ·exact⟨.ck,Wk.ck,rfl,fun n=>rfl,rfl,fun ids _=>rfl⟩
 have rp:s.dc id=some (.arr sz dm):=hb
 have e1:s.dm id (s.av id)=some (sz,dm):=by unfold PS.dm;rw[bd rfl,rp]
 have e2:s.elc id (s.av id)=some (sz,dm.map (·.map .d)):=by unfold PS.elc;rw[bd rfl,rp]
 refine⟨.gz sz dm,Wk.refl _,rfl,fun n=>?_,?_,fun ids hi=>?_⟩
 ·show deep s (n+1) (.ref id (s.av id) dm.length)=_
  have:=Yi (fun e:List C=>O1 (e.map (deep s n))) (fun e=>e.filterMap fun| .d x=>some x|_=>none) (dm.map (·.map C.d)) (fun e he=>by
   obtain⟨d,_,rfl⟩:=gr.1 he;rw[ax4]
   congr 1
   rw[List.filterMap_map]
   exact(aK0).symm)
  have e3:(dm.map (·.map C.d)).map (fun e=>e.filterMap fun| .d x=>some x|_=>none)=dm:=by
   rw[a4f];refine(Dd fun d _=>?_).trans (aL7 dm);show((d.map C.d).filterMap _)=d;rw[List.filterMap_map];exact aK0
  rw[e3]at this;simp only[deep,e2,ag,cz,this,ir]
 ·show oh s (.ref id (s.av id) dm.length)=_;simp only[oh,e1,cz]
 show C.xc s ids (.ref id (s.av id) dm.length)=_;simp only[C.xc,hi,cz,e1]
theorem P8.data{s:PS}{b:Nat}{n:Nd}{e:List C}(h:P8 s.mem b n e):∃z:WN,z.n=n∧(∀k,O1 (e.map (deep s (k+1)))=some (Cc z))∧∀ids,b+45∈ids→b+35∈ids→e.map (C.xc s ids)=(Cc z).map .d:=by
 obtain⟨cV,cI,rfl,h1,h2⟩:=h;obtain⟨x,x1,x2,x3,x4,x5⟩:=h1.data;obtain⟨y,y1,y2,y3,y4,y5⟩:=h2.data;refine⟨⟨n,x,y,x1,y1,x2,y2⟩,rfl,fun k=>?_,fun ids i1 i2=>?_⟩
 ·simp only[dr,gn,akg,x3,y3,O1,Cc]
 simp only[dr,gn,x5 ids i1,y5 ids i2,Cc];rfl
theorem afu{β:Type}{p:Nat→β→Prop}(n:Nat)(h:∀k,k<n→∃z,p k z):∃l:List β,l.length=n∧∀k (hk:k<l.length),p k l[k]:=by
 induction n with
 |zero=>exact⟨[],rfl,fun k hk=>absurd hk (by simp)⟩
 |succ n ih=>
  obtain⟨l,hl,h2⟩:=ih fun k hk=>h k (by omega);obtain⟨z,hz⟩:=h n (by omega);refine⟨l++[z],by simp[hl],fun k hk=>?_⟩;simp only[db,cj,du]at hk;rcases a4e k l.length with h'|h'
  ·rw[aFu h'];exact h2 k h'
  have:k=l.length:=by omega
  subst this;rw[List.getElem_append_right (by omega)];simp only[Vm,List.getElem_cons_zero];rw[hl];exact hz
def Dx(b n:Nat):List Nat:=(dt n).flatMap fun k=>[b+64+64*k+45,b+64+64*k+35]
theorem Va{b n i:Nat}:i∈Dx b n↔∃k,k<n∧(i=b+64+64*k+45∨i=b+64+64*k+35):=by
 unfold Dx;rw[Pb];constructor
 ·rintro⟨k,hk,h⟩;simp only[fb,l8,or_false]at h;exact⟨k,ez.1 hk,h⟩
 rintro⟨k,hk,h⟩;exact⟨k,ez.2 hk,by simpa using h⟩
theorem a4m{s:PS}{a b:C}{x y:D}(h1:oh s a=some x)(h2:oh s b=some y):ju s [a,b]=some [x,y]:=by
 have:ju s [b]=some [y]:=by
  show(match oh s b,ju s []with|some x,some l=>some (x::l)|_,_=>none)=_
  rw[h2];rfl
 show(match oh s a,ju s [b]with|some x,some l=>some (x::l)|_,_=>none)=_
 rw[h1,this]
theorem Np.data{s:PS}{b:Nat}{l:List Nd}{cells:List (List C)}(h:Np s.mem b l cells):∃zs:List WN,zs.map WN.n=l∧(∀k,O1 (cells.map fun e=>O1 (e.map (deep s (k+1))))=some (zs.map Cc))∧
  cells.map (fun e=>e.map (C.xc s (Dx b l.length)))=(zs.map Cc).map (·.map .d):=by
 obtain⟨zs,hz,hp⟩:=afu (p:=fun k z=>z.n=l.getD k n0∧(∀q,O1 ((cells.getD k []).map (deep s (q+1)))=some (Cc z))∧(cells.getD k []).map (C.xc s (Dx b l.length))=(Cc z).map .d) l.length (fun k hk=>by
  obtain⟨z,z1,z2,z3⟩:=(h.2 k hk).data
  exact⟨z,z1,z2,z3 _ (Va.2 ⟨k,hk,.inl rfl⟩) (Va.2 ⟨k,hk,.inr rfl⟩)⟩)
 have hcl:=h.1;refine⟨zs,?_,fun k=>?_,?_⟩
 ·refine amu (by simpa using hz) fun i h1 h2=>?_;rw[ams,(hp i (by simpa using h1)).1];simp[cw,h2]
 ·have hlen:cells.length=zs.length:=by omega
  have:cells.map (fun e=>O1 (e.map (deep s (k+1))))=(zs.map Cc).map some:=by
   refine amu (by simp[hlen]) fun i h1 h2=>?_;simp only[ag]at h1 h2;simp only[ams];have:=(hp i h2).2.1 k
   have e1:cells.getD i []=cells[i]:=by simp[cw,h1]
   rw[e1]at this;exact this
  rw[this];have:=Yi (some:List D→Option (List D)) id (zs.map Cc) fun x _=>rfl
  rwa[aL7]at this
 have hlen:cells.length=zs.length:=by omega
 refine amu (by simp[hlen]) fun i h1 h2=>?_;simp only[ag]at h1 h2;simp only[ams];have:=(hp i h2).2.2
 have e1:cells.getD i []=cells[i]:=by simp[cw,h1]
 rw[e1]at this;exact this
theorem Cz.data{s:PS}{b:Nat}{t:Tr}{cs:List C}(h:Cz s.mem b t cs):∃x y,ju s cs=some [x,y]∧Wk x (jq t.ps)∧Wk y (l5 t.ns):=by
 obtain⟨cP,cN,cells,rfl,oP,hC,hN⟩:=h;obtain⟨x,x1,x2,x3,x4,x5⟩:=oP.data;obtain⟨zs,z1,z2,z3⟩:=hC.data;rcases hN with ⟨h0,rfl⟩|⟨h0,rfl,hb⟩
 ·exact⟨x,.ck,a4m x4 rfl,x1,by rw[h0];exact Wk.ck⟩
 have rp:s.dc (b+51)=some (.qi 5 cells):=hb
 have e1:s.dm (b+51) (s.av (b+51))=none:=by unfold PS.dm;rw[bd rfl,rp]
 have e2:s.elc (b+51) (s.av (b+51))=some (5,cells):=by unfold PS.elc;rw[bd rfl,rp]
 have e3:oh s (.ref (b+51) (s.mem.av (b+51)) t.ns.length)=some (.gz 5 (zs.map Cc)):=by
  show oh s (.ref (b+51) (s.av (b+51)) t.ns.length)=_;simp only[oh,e1,deep,e2,hC.1,cz,z2 4,ir]
 refine⟨x,.gz 5 (zs.map Cc),a4m x4 e3,x1,?_⟩;rw[←z1];exact J1 zs
def Q6(m:Mem)(B off:Nat)(isR:Nat→Bool)(bo:Nat→Go.PI.B):Nat→Nat→Option Go.PI.B
 |0=>m.dc
 |j+1=>if isR j=true then l7 (Q6 m B off isR bo j) (B+64+64*j+off) (some (bo j))else Q6 m B off isR bo j
theorem Gl{m:Mem}{B off:Nat}{isR:Nat→Bool}{bo:Nat→Go.PI.B}{j:Nat}:Q6 m B off isR bo (j+1)=if isR j=true then l7 (Q6 m B off isR bo j) (B+64+64*j+off) (some (bo j))else Q6 m B off isR bo j:=rfl
theorem G4{m:Mem}{B off:Nat}{isR:Nat→Bool}{bo:Nat→Go.PI.B}{i:Nat}:∀{j:Nat},(∀k,k<j→i≠B+64+64*k+off)→Q6 m B off isR bo j i=m.dc i:=by
 intro j
 induction j with
 |zero=>intro _;rfl
 |succ j ih=>
  intro h;unfold Q6;split
  ·rw[gj _ _ _ _ (h j (by omega))];exact ih fun k hk=>h k (by omega)
  exact ih fun k hk=>h k (by omega)
theorem alo{m:Mem}{B off:Nat}{isR:Nat→Bool}{bo:Nat→Go.PI.B}{k:Nat}:∀{j:Nat},k<j→Q6 m B off isR bo j (B+64+64*k+off)=if isR k=true then some (bo k)else m.dc (B+64+64*k+off):=by
 intro j
 induction j with
 |zero=>intro h;omega
 |succ j ih=>
  intro h;unfold Q6;rcases a4e k j with h'|h'
  ·split
   ·rw[gj _ _ _ _ (by omega)];exact ih h'
   exact ih h'
  have:k=j:=by omega
  subst this;split
  ·rw[cu]
  exact G4 fun q hq=>by omega
theorem a07{α:Type}(f:α→α)(l:List α){q:Nat}(h:q<l.length):((l.take q).map f++l.drop q)[q]? =some l[q]:=by
 rw[ly (by simp only[ag,er];omega)];simp only[ag,er,aax (aKq h),Vm,og,Af,ax h]
theorem a3z{α:Type}(f:α→α)(l:List α){q:Nat}(h:q≤l.length):((l.take q).map f++l.drop q).length=l.length:=by
 simp only[db,ag,er,yu];omega
theorem Yq{α:Type}(f:α→α)(l:List α){q:Nat}(h:q<l.length):(l.take (q+1)).map f++l.drop (q+1)=((l.take q).map f++l.drop q).set q (f l[q]):=by
 have e1:l.take (q+1)=l.take q++[l[q]]:=by rw[gl];simp[h]
 have e2:l.drop q=l[q]::l.drop (q+1):=jj h
 have e3:((l.take q).map f).length=q:=by simp only[ag,er];omega
 rw[e1,e2,fl,po,a86 _ _ (by omega),e3,Vm];rfl
def isRef:C→Bool
 | .ref .. =>true
 |_=>false
section
variable{P:Program}
theorem aqu{s:PS}{cs:List C}{xs:List D}(h:ju s cs=some xs):snap s (mkv true cs)=some (.agg xs):=by
 unfold mkv
 cases ha:Lo cs with
 |none=>simp only[snap,h,ir]
 |some ds=>
  have e:∀(cs:List C) (ds:List D),Lo cs=some ds→ju s cs=some ds:=by
   intro cs
   induction cs with
   |nil=>intro ds h;simp[Lo]at h;subst h;rfl
   |cons c r ih=>
    intro ds h
    cases c with
    |d x=>
     simp only[Lo]at h;split at h
     ·rename_i l hl
      injection h with h
      subst h;simp only[ju,oh,ih l hl]
     cases h
    |_=>simp[Lo]at h
  rw[e cs ds ha]at h
  injection h with h
  subst h;rfl
theorem Ci{K:PS→Prop}{S:PS}{rr:List RI}{d:Option Nat}{f:Nat}{nm:ByteArray}{r:D}{cs:List C}{X Y:D}(key:∃x y,ju S cs=some [x,y]∧Wk x X∧Wk y Y)(hp:∀x y,Wk x X→Wk y Y→iz P f [.agg [x,y],.str nm] r)(hr:r.flat=true)
  (h4:lk P rr (S.put d (.d r)) K):Ey P f [mkv true cs,.d (.str nm)] [] false d S (Ac P rr K):=by
 obtain⟨x,y,h1,h2,h3⟩:=key;refine jr (ds:=[.agg [x,y],.str nm]) ?_ (hp x y h2 h3) hr h4;have:=aqu h1
 show(match snap S (mkv true cs),Hk S [.d (.str nm)]with|some x,some l=>some (x::l)|_,_=>none)=_
 rw[this];rfl
end
theorem Cz.mono{m m':Mem}{b n:Nat}{t:Tr}{cs:List C}(h:Cz m b t cs)(hn:t.ns.length≤n)(hm:∀i,b≤i→i<b+96+64*n+64→m'.dc i=m.dc i∧m'.av i=m.av i):Cz m' b t cs:=by
 obtain⟨cP,cN,cells,rfl,oP,hC,hN⟩:=h;refine⟨cP,cN,cells,rfl,oP.mono (hm _ (by omega) (by omega)).1 (hm _ (by omega) (by omega)).2,⟨hC.1,fun k hk=>(hC.2 k hk).mono (hm _ (by omega) (by omega)).1 (hm _ (by omega) (by omega)).2 (hm _ (by omega) (by omega)).1 (hm _ (by omega) (by omega)).2⟩,?_⟩;rcases hN with h0|⟨h0,h1,h2⟩
 ·exact .inl h0
 exact .inr ⟨h0,by rw[(hm _ (by omega) (by omega)).2];exact h1,by rw[(hm _ (by omega) (by omega)).1];exact h2⟩
section
variable{P:Program}(A:Pr4 P)
theorem aws(e:Edt)(t:Tr)(hl:t.ns.length≤2^20)(hI:xu t e.n= -1){m:Mem}{u B0 b:Nat}{cs:List C}(hT:Cz m B0 t cs)(zx:m.dc u=some (.loc cs))(huB:u<B0)(hB:B0+96+64*t.ns.length+64≤b)(kl:uo m b):
  qm P A.nu m [.ie u (m.av u) 0,.d (.agg (pk e))] m (.d (.int ab 4)):=by
 have ue:=fun(x y:D) (hx:Wk x (jq t.ps)) (hy:Wk y (l5 t.ns))=>Jg A.toPr (ps:=t.ps) (ns:=t.ns) e.n (by omega) hx hy;rw[show(⟨t.ps,t.ns⟩:Tr)=t from rfl,hI]at ue
 have qt:u≠b+3:=by omega
 have key:∀s1:PS,(∀i,i<b→s1.dc i=m.dc i∧s1.av i=m.av i)→∃x y,ju s1 cs=some [x,y]∧Wk x (jq t.ps)∧Wk y (l5 t.ns):=fun s1 h=>
  Cz.data (hT.mono (ay _) fun i h1 h2=>h i (by omega))
 refine lu A.mo A.Gd (by simp) b (fun c=>?_) (fun i=>ay _) (fun i b' rp=> .inl rp) (fun i es hi=> .inl hi) trivial;show kq P (tx A.kj) (xv m [.tmp 4] _ _) _;obtain⟨cP,cN,cells,rfl,oP,hC,hN⟩:=hT
 rcases oP with ⟨e1,rfl⟩|⟨rfl,Ca⟩<;>rcases hN with ⟨h0,rfl⟩|⟨h0,rfl,zy⟩<;>
 ·simp only[tx,enter,pk,go_sem,aa,ae,ah,reduceCtorEq,ca,zx,qt];refine Ci (key _ fun i hi=>?_) ue rfl ?_
  ·simp only[aj];rw[al (by omega),al (by omega)];exact⟨rfl,rfl⟩
  simp only[go_sem,aa,de,cq,reduceCtorEq,PS.mem,ag,pa,sq];exact tq kl (by omega) rfl rfl
theorem aB0(e:Edt)(t:Tr)(hl:t.ns.length≤2^20){k q:Nat}(hI:xu t e.n=(k:Int))(hJ:xu t e.t=(q:Int)){m:Mem}{u B0 b:Nat}{cs:List C}(hT:Cz m B0 t cs)(zx:m.dc u=some (.loc cs))(huB:u<B0)(hB:B0+96+64*t.ns.length+64≤b)(kl:uo m b):
  qm P A.nu m [.ie u (m.av u) 0,.d (.agg (pk e))] m (.d (.int ab 7)):=by
 have ue:=fun(x y:D) (hx:Wk x (jq t.ps)) (hy:Wk y (l5 t.ns))=>Jg A.toPr (ps:=t.ps) (ns:=t.ns) e.n (by omega) hx hy;have T6:=fun(x y:D) (hx:Wk x (jq t.ps)) (hy:Wk y (l5 t.ns))=>Jg A.toPr (ps:=t.ps) (ns:=t.ns) e.t (by omega) hx hy;rw[show(⟨t.ps,t.ns⟩:Tr)=t from rfl,hI]at ue;rw[show(⟨t.ps,t.ns⟩:Tr)=t from rfl,hJ]at T6
 have hk0:¬((k:Int)<0):=by omega
 have hq0:(q:Int)≥0:=by omega
 have qt:u≠b+3:=by omega
 have key:∀s1:PS,(∀i,i<b→s1.dc i=m.dc i∧s1.av i=m.av i)→∃x y,ju s1 cs=some [x,y]∧Wk x (jq t.ps)∧Wk y (l5 t.ns):=fun s1 h=>
  Cz.data (hT.mono (ay _) fun i h1 h2=>h i (by omega))
 refine lu A.mo A.Gd (by simp) b (fun c=>?_) (fun i=>ay _) (fun i b' rp=> .inl rp) (fun i es hi=> .inl hi) trivial;show kq P (tx A.kj) (xv m [.tmp 4] _ _) _;obtain⟨cP,cN,cells,rfl,oP,hC,hN⟩:=hT
 rcases oP with ⟨e1,rfl⟩|⟨rfl,Ca⟩<;>rcases hN with ⟨h0,rfl⟩|⟨h0,rfl,zy⟩<;>
 ·simp only[tx,enter,pk,go_sem,aa,ae,ah,reduceCtorEq,ca,zx,qt];refine Ci (key _ fun i hi=>?_) ue rfl ?_
  ·simp only[aj];rw[al (by omega),al (by omega)];exact⟨rfl,rfl⟩
  simp only[go_sem,aa,ae,ah,reduceCtorEq,ca,zx,qt,hk0];refine Ci (key _ fun i hi=>?_) T6 rfl ?_
  ·simp only[aj];rw[al (by omega),al (by omega)];exact⟨rfl,rfl⟩
  simp only[go_sem,aa,reduceCtorEq,PS.mem,ag,pa,sq,hq0];exact tq kl (by omega) rfl rfl
end
def Zz:dn:=
     (.seq (
     .region [⟨some 42,.bin .lss (.t 41) (.t 40),none,[]⟩] false []) (
     (.seq (
      (.cond (.t 42) (
      .skip) (
      .exit 1))) (
      (.seq (
      (.block 2 (
       (.seq (
       .region [⟨some 43,.xm 5 (.t 39) (.t 41),none,[]⟩,
        ⟨some 44,.load 5 true (.t 43),none,[]⟩,
        ⟨some 7,.alloc [(.str ⟨#[]⟩),(.int ab 0),.ck,.ck,.ck],none,[]⟩,
        ⟨none,.store 5 (.t 7) (.t 44),none,[]⟩] false []) (
       (.seq (
        .region [⟨some 45,.D4 4 (.t 7),none,[]⟩,
         ⟨some 46,.load 1 false (.t 45),none,[]⟩,
         ⟨some 47,.len .gz (.t 46),none,[]⟩,
         ⟨some 48,.ji (.c (.int ab 0)),none,[]⟩] false []) (
        (.block 3 (
        (.loop (
         (.seq (
         .region [⟨some 49,.bin .lss (.t 48) (.t 47),none,[]⟩] false []) (
         (.seq (
          (.cond (.t 49) (
          .skip) (
          .exit 3))) (
          (.seq (
          (.block 4 (
           (.seq (
           .region [⟨some 50,.ji (.t 48),none,[]⟩,
            ⟨some 51,.xm 1 (.t 46) (.t 48),none,[]⟩,
            ⟨some 52,.load 1 false (.t 51),none,[]⟩,
            ⟨some 8,.ji (.t 50),none,[]⟩,
            ⟨some 9,.ji (.t 52),none,[]⟩] false []) (
           (.seq (
            .region [⟨some 53,.ji (.t 9),none,[]⟩,
             ⟨some 54,.D4 1 (.t 3),none,[]⟩,
             ⟨some 55,.load 1 false (.t 54),none,[]⟩,
             ⟨some 56,.bin .eql (.t 53) (.t 55),none,[]⟩] false []) (
            (.cond (.t 56) (
            .region [⟨some 57,.D4 4 (.t 7),none,[]⟩,
             ⟨some 58,.load 1 false (.t 57),none,[]⟩,
             ⟨some 59,.ji (.t 8),none,[]⟩,
             ⟨some 60,.D4 2 (.t 3),none,[]⟩,
             ⟨some 61,.load 1 false (.t 60),none,[]⟩,
             ⟨some 62,.xm 1 (.t 58) (.t 59),none,[]⟩,
             ⟨none,.store 1 (.t 62) (.t 61),none,[]⟩] false []) (
            .skip))))))))) (
          .region [⟨some 63,.bin .add (.t 48) (.c (.int ab 1)),none,[]⟩,
           ⟨some 48,.ji (.t 63),none,[]⟩] false []))))))))))))))))) (
      .region [⟨some 64,.bin .add (.t 41) (.c (.int ab 1)),none,[]⟩,
       ⟨some 41,.ji (.t 64),none,[]⟩] false []))))))
def rnS(o n s:ByteArray):ByteArray:=if kz s o then n else s
def a8j(o n:ByteArray)(x:Nd):Nd:=⟨x.n,x.f,x.ins.map (rnS o n)⟩
def inR(cells:List (List C))(k:Nat):Bool:=isRef ((cells.getD k []).getD 4 (.d .ck))
def inB(o n:ByteArray)(L:List Nd)(k:Nat):B:= .arr 1 ((a8j o n (L.getD k n0)).ins.map ss)
def a2h(m:Mem)(e:Edt)(b B nj:Nat)(L:List Nd)(cells:List (List C))(j:Nat)(s':PS):Prop:=
 s'.base=b∧s'.tmp 3= .ie (b+3) (s'.av (b+3)) 0∧s'.dc (b+3)=some (.loc ((pk e).map .d))∧s'.tmp 39= .ref nj (m.av nj) L.length∧s'.tmp 40= .d (.int ab L.length)∧s'.mp=m.mp∧(∀i,i<b→s'.av i=m.av i)∧
 s'.dc nj=some (.qi 5 cells)∧(∀i,i<b→i≠nj→s'.dc i=Q6 m B 35 (inR cells) (inB e.n e.t L) j i)
section
variable{P:Program}(A:Pr4 P)
theorem awt{m:Mem}{e:Edt}{b B nj:Nat}{L:List Nd}{cells:List (List C)}(hC:Np m B L cells)(hl:L.length≤2^20)(Vt:∀n∈L,n.ins.length≤2^30)(hB:B+64+64*L.length+64≤b)(aGx:nj<B+64)(Q:Exit→PS→Prop)(j:Nat)(s':PS)(hj:j≤L.length)
  (hR:a2h m e b B nj L cells j s')(h41:s'.tmp 41= .d (.int ab j))(hQ:∀s2,a2h m e b B nj L cells L.length s2→Q (.exit 1) s2):kq P Zz (apg L.length j (fun j s2=>a2h m e b B nj L cells j s2∧s2.tmp 41= .d (.int ab j)) Q) s':=by
 obtain⟨eb,f3,b3,f39,f40,emp,nh,Ak,hblk⟩:=hR
 have zy:nj<b:=by omega
 have hvn:=nh nj zy;have hcl:=hC.1;by_cases hlt:(j:Int)<L.length
 ·have dq:j<L.length:=by omega
  have wj:=dh ((j:Int)+1) (by omega) (by omega);obtain⟨cV,cI,hce,oV,oI⟩:=hC.2 j dq
  have hjc:j<cells.length:=by omega
  have hg:cells[j]? =some [.d (.str (L.getD j n0).n),.d (.int ab (L.getD j n0).f.k),cV,.d (ku (L.getD j n0).f.ls),cI]:=by
   rw[←hce];simp[cw,hjc]
  have U9:L.getD j n0∈L:=by
   have:L.getD j n0=L[j]:=by simp[cw,dq]
   rw[this];exact df _
  have hli:=Vt _ U9
  have hiR:inR cells j=isRef cI:=by unfold inR;rw[hce];rfl
  have a65:∀i,(i=B+64+64*j+45∨i=B+64+64*j+35)→s'.dc i=m.dc i∧s'.av i=m.av i:=fun i hi=>by
   refine⟨?_,nh i (by omega)⟩;rw[hblk i (by omega) (by omega)]
   exact G4 fun k hk=>by omega
  have hV:=a65 (B+64+64*j+45) (.inl rfl);have hI:=a65 (B+64+64*j+35) (.inr rfl)
  generalize hnn:L.getD j n0=n at*
  have hv7:B+64+64*j+45≠b+7:=by omega
  have hi7:B+64+64*j+35≠b+7:=by omega
  have hi3:B+64+64*j+35≠b+3:=by omega
  have hiB:B+64+64*j+35<b:=by omega
  have hin:B+64+64*j+35≠nj:=by omega
  generalize aGp:B+64+64*j+45=vid at*
  generalize ack:B+64+64*j+35=iid at*
  simp only[pk,dr,gn]at b3;rcases oV with ⟨e1,rfl⟩|⟨rfl,hvb⟩<;>rcases oI with ⟨e2,rfl⟩|⟨rfl,hib⟩
  ·simp only[Zz,ku,go_sem,aa,ae,reduceCtorEq,eb,f39,f40,h41,Ak,hvn,hlt,hg,hcl,bp,ao];refine fp 0 (fun q s2=>a2h m e b B nj L cells (j+1) s2∧s2.tmp 41= .d (.int ab j)∧s2.tmp 47= .d (.int ab 0)∧s2.tmp 48= .d (.int ab 0)) ?_ ?_
   ·refine⟨⟨rfl,?_,?_,?_,?_,emp,fun i hi=>?_,?_,fun i hi hne=>?_⟩,?_,?_,?_⟩
    ·simp only[aj,aa,bn,f3,fu]
    ·simp only[aj,fu,aa,bn,b3,pk,dr,gn]
    ·simp only[aj,aa,bn,f39]
    ·simp only[aj,aa,bn,f40]
    ·simp only[aj];rw[al (by omega)];exact nh i hi
    ·simp only[aj];rw[al (by omega),al (by omega)];exact Ak
    ·simp only[aj];rw[al (by omega),al (by omega),hblk i hi hne];rw[Gl,al (by rw[hiR];simp[isRef])]
    ·simp only[aj,aa,bn,h41]
    ·simp only[aj,aa,bn,cz]
    simp only[aj,aa,bn,cz]
   rintro q s2 hq ⟨⟨eb,f3,b3,f39,f40,emp,nh,Ak,hblk⟩,h41,h47,h48⟩;simp only[go_sem,aa,reduceCtorEq,h47,h48,h41,wj];exact⟨dq,⟨eb,f3,b3,f39,f40,emp,nh,Ak,hblk⟩,by rw[lz];rfl⟩
  ·simp only[Zz,ku,go_sem,aa,ae,reduceCtorEq,eb,f39,f40,h41,Ak,hvn,hlt,hg,hcl,bp,ao,fg,ag,hI.1,hI.2,hib,hi7]
   have hC7:∀q:List ByteArray,q.length=n.ins.length→(q.map ss).length=n.ins.length:=fun q h=>by rw[ag];exact h
   refine fp n.ins.length (fun q s2=>s2.base=b∧s2.tmp 3= .ie (b+3) (s2.av (b+3)) 0∧s2.dc (b+3)=some (.loc ((pk e).map .d))∧s2.tmp 39= .ref nj (m.av nj) L.length∧s2.tmp 40= .d (.int ab L.length)∧s2.mp=m.mp∧(∀i,i<b→s2.av i=m.av i)∧
    s2.dc nj=some (.qi 5 cells)∧(∀i,i<b→i≠nj→i≠iid→s2.dc i=Q6 m B 35 (inR cells) (inB e.n e.t L) j i)∧s2.dc iid=some (.arr 1 (((n.ins.take q).map (rnS e.n e.t)++n.ins.drop q).map ss))∧
    s2.tmp 41= .d (.int ab j)∧s2.tmp 7= .ie (b+7) (s2.av (b+7)) 0∧(∃c0 c1 c2 c3,s2.dc (b+7)=some (.loc [c0,c1,c2,c3,.ref iid (m.av iid) n.ins.length]))∧s2.tmp 46= .ref iid (m.av iid) n.ins.length∧s2.tmp 47= .d (.int ab n.ins.length)∧s2.tmp 48= .d (.int ab q)) ?_ ?_
   ·refine⟨rfl,?_,?_,?_,?_,emp,fun i hi=>?_,?_,fun i hi hne a2x=>?_,?_,?_,?_,⟨_,_,_,_,cu _ _ _⟩,?_,?_,?_⟩
    ·simp only[aj,aa,bn,f3,fu]
    ·simp only[aj,fu,aa,bn,b3,pk,dr,gn]
    ·simp only[aj,aa,bn,f39]
    ·simp only[aj,aa,bn,f40]
    ·simp only[aj];rw[al (by omega)];exact nh i hi
    ·simp only[aj];rw[al (by omega),al (by omega)];exact Ak
    ·simp only[aj];rw[al (by omega),al (by omega),hblk i hi hne]
    ·simp only[aj,M5,gn,Ap,adz];rw[al (by omega),al (by omega),hI.1];exact hib
    ·simp only[aj,aa,bn,h41]
    ·simp only[aj,aa,bn,cz]
    ·simp only[aj,aa,bn,cz]
    ·simp only[aj,aa,bn,cz]
    simp only[aj,aa,bn,cz];rfl
   clear f3 b3 f39 f40 h41 Ak hblk eb nh emp;rintro q s2 hq ⟨eb,f3,b3,f39,f40,emp,nh,Ak,hblk,bi,h41,f7,⟨c0,c1,c2,c3,b7⟩,h46,h47,h48⟩;have hvi:=nh iid (by omega);by_cases hq2:(q:Int)<n.ins.length
   ·have hq3:q<n.ins.length:=by omega
    have wq:=dh ((q:Int)+1) (by omega) (by omega);have hW:=a3z (rnS e.n e.t) n.ins hq
    have hgq:(((n.ins.take q).map (rnS e.n e.t)++n.ins.drop q).map ss)[q]? =some [.str n.ins[q]]:=by
     rw[cy,a07 _ _ hq3];rfl
    have U7:=Yq (rnS e.n e.t) n.ins hq3
    generalize hWl:(n.ins.take q).map (rnS e.n e.t)++n.ins.drop q=W at*
    simp only[pk,dr,gn]at b3;simp only[go_sem,aa,ae,ah,reduceCtorEq,eb,f3,b3,h46,h47,h48,hq2,hvi,bi,hgq,hW,ag,bp,ao];cases hs:kz n.ins[q] e.n
    ·have Ps:W.set q (rnS e.n e.t n.ins[q])=W:=by
      unfold rnS;rw[hs];refine ady fun i=>?_;rw[so];split
      ·rename_i h;subst h;have:=hgq;rw[cy,aq]at this;obtain⟨y,y1,y2⟩:=this;simp only[ss,ab2,D.str.injEq,and_true]at y2;subst y2;rw[y1,bd (by omega)];simp
      rfl
     unfold kz at hs;simp only[go_sem,aa,reduceCtorEq,f3,b3,f39,f40,h41,f7,h46,h47,h48,hs,wq];refine⟨hq3,rfl,emp,nh,Ak,hblk,?_,⟨c0,c1,c2,c3,b7⟩,by rw[lz];rfl⟩;rw[U7,Ps];exact bi
    have O3:(W.map ss).set q [.str e.t]=((n.ins.take (q+1)).map (rnS e.n e.t)++n.ins.drop (q+1)).map ss:=by
     rw[U7,←Je];unfold rnS;rw[hs];rfl
    unfold kz at hs;simp only[go_sem,aa,ae,ah,reduceCtorEq,f3,b3,f39,f40,h41,f7,b7,h46,h47,h48,hs,wq,hq2,hvi,bi,hgq,hW,ag,bp,ao,O3,hin.symm,hi3.symm,hi7.symm];refine⟨hq3,rfl,emp,nh,Ak,fun i h1 h2 h3=>?_,⟨c0,c1,c2,c3,rfl⟩,by rw[lz];rfl⟩;rw[al h3];exact hblk i h1 h2 h3
   have:q=n.ins.length:=by omega
   subst this;rw[eh,Pc,sr]at bi;simp only[go_sem,aa,reduceCtorEq,eb,h47,h48,h41,wj,hq2];refine⟨dq,⟨rfl,f3,b3,f39,f40,emp,nh,Ak,fun i hi hne=>?_⟩,by rw[lz];rfl⟩;rw[Gl,bd (by rw[hiR];rfl)];by_cases hii:i=iid
   ·subst hii;rw[ack,cu];rw[bi];unfold inB a8j;rw[hnn]
   rw[ack,gj _ _ _ _ hii];exact hblk i hi hne hii
  ·simp only[Zz,ku,go_sem,aa,ae,reduceCtorEq,eb,f39,f40,h41,Ak,hvn,hlt,hg,hcl,bp,ao,fg,ag,hV.1,hV.2,hvb,hv7];refine fp 0 (fun q s2=>a2h m e b B nj L cells (j+1) s2∧s2.tmp 41= .d (.int ab j)∧s2.tmp 47= .d (.int ab 0)∧s2.tmp 48= .d (.int ab 0)) ?_ ?_
   ·refine⟨⟨rfl,?_,?_,?_,?_,emp,fun i hi=>?_,?_,fun i hi hne=>?_⟩,?_,?_,?_⟩
    ·simp only[aj,aa,bn,f3,fu]
    ·simp only[aj,fu,aa,bn,b3,pk,dr,gn]
    ·simp only[aj,aa,bn,f39]
    ·simp only[aj,aa,bn,f40]
    ·simp only[aj];rw[al (by omega)];exact nh i hi
    ·simp only[aj];rw[al (by omega),al (by omega)];exact Ak
    ·simp only[aj];rw[al (by omega),al (by omega),hblk i hi hne];rw[Gl,al (by rw[hiR];simp[isRef])]
    ·simp only[aj,aa,bn,h41]
    ·simp only[aj,aa,bn,cz]
    simp only[aj,aa,bn,cz]
   rintro q s2 hq ⟨⟨eb,f3,b3,f39,f40,emp,nh,Ak,hblk⟩,h41,h47,h48⟩;simp only[go_sem,aa,reduceCtorEq,h47,h48,h41,wj];exact⟨dq,⟨eb,f3,b3,f39,f40,emp,nh,Ak,hblk⟩,by rw[lz];rfl⟩
  simp only[Zz,ku,go_sem,aa,ae,reduceCtorEq,eb,f39,f40,h41,Ak,hvn,hlt,hg,hcl,bp,ao,fg,ag,hV.1,hV.2,hvb,hv7,hI.1,hI.2,hib,hi7]
  have hC7:∀q:List ByteArray,q.length=n.ins.length→(q.map ss).length=n.ins.length:=fun q h=>by rw[ag];exact h
  refine fp n.ins.length (fun q s2=>s2.base=b∧s2.tmp 3= .ie (b+3) (s2.av (b+3)) 0∧s2.dc (b+3)=some (.loc ((pk e).map .d))∧s2.tmp 39= .ref nj (m.av nj) L.length∧s2.tmp 40= .d (.int ab L.length)∧s2.mp=m.mp∧(∀i,i<b→s2.av i=m.av i)∧
   s2.dc nj=some (.qi 5 cells)∧(∀i,i<b→i≠nj→i≠iid→s2.dc i=Q6 m B 35 (inR cells) (inB e.n e.t L) j i)∧s2.dc iid=some (.arr 1 (((n.ins.take q).map (rnS e.n e.t)++n.ins.drop q).map ss))∧
   s2.tmp 41= .d (.int ab j)∧s2.tmp 7= .ie (b+7) (s2.av (b+7)) 0∧(∃c0 c1 c2 c3,s2.dc (b+7)=some (.loc [c0,c1,c2,c3,.ref iid (m.av iid) n.ins.length]))∧s2.tmp 46= .ref iid (m.av iid) n.ins.length∧s2.tmp 47= .d (.int ab n.ins.length)∧s2.tmp 48= .d (.int ab q)) ?_ ?_
  ·refine⟨rfl,?_,?_,?_,?_,emp,fun i hi=>?_,?_,fun i hi hne a2x=>?_,?_,?_,?_,⟨_,_,_,_,cu _ _ _⟩,?_,?_,?_⟩
   ·simp only[aj,aa,bn,f3,fu]
   ·simp only[aj,fu,aa,bn,b3,pk,dr,gn]
   ·simp only[aj,aa,bn,f39]
   ·simp only[aj,aa,bn,f40]
   ·simp only[aj];rw[al (by omega)];exact nh i hi
   ·simp only[aj];rw[al (by omega),al (by omega)];exact Ak
   ·simp only[aj];rw[al (by omega),al (by omega),hblk i hi hne]
   ·simp only[aj,M5,gn,Ap,adz];rw[al (by omega),al (by omega),hI.1];exact hib
   ·simp only[aj,aa,bn,h41]
   ·simp only[aj,aa,bn,cz]
   ·simp only[aj,aa,bn,cz]
   ·simp only[aj,aa,bn,cz]
   simp only[aj,aa,bn,cz];rfl
  clear f3 b3 f39 f40 h41 Ak hblk eb nh emp;rintro q s2 hq ⟨eb,f3,b3,f39,f40,emp,nh,Ak,hblk,bi,h41,f7,⟨c0,c1,c2,c3,b7⟩,h46,h47,h48⟩;have hvi:=nh iid (by omega);by_cases hq2:(q:Int)<n.ins.length
  ·have hq3:q<n.ins.length:=by omega
   have wq:=dh ((q:Int)+1) (by omega) (by omega);have hW:=a3z (rnS e.n e.t) n.ins hq
   have hgq:(((n.ins.take q).map (rnS e.n e.t)++n.ins.drop q).map ss)[q]? =some [.str n.ins[q]]:=by
    rw[cy,a07 _ _ hq3];rfl
   have U7:=Yq (rnS e.n e.t) n.ins hq3
   generalize hWl:(n.ins.take q).map (rnS e.n e.t)++n.ins.drop q=W at*
   simp only[pk,dr,gn]at b3;simp only[go_sem,aa,ae,ah,reduceCtorEq,eb,f3,b3,h46,h47,h48,hq2,hvi,bi,hgq,hW,ag,bp,ao];cases hs:kz n.ins[q] e.n
   ·have Ps:W.set q (rnS e.n e.t n.ins[q])=W:=by
     unfold rnS;rw[hs];refine ady fun i=>?_;rw[so];split
     ·rename_i h;subst h;have:=hgq;rw[cy,aq]at this;obtain⟨y,y1,y2⟩:=this;simp only[ss,ab2,D.str.injEq,and_true]at y2;subst y2;rw[y1,bd (by omega)];simp
     rfl
    unfold kz at hs;simp only[go_sem,aa,reduceCtorEq,f3,b3,f39,f40,h41,f7,h46,h47,h48,hs,wq];refine⟨hq3,rfl,emp,nh,Ak,hblk,?_,⟨c0,c1,c2,c3,b7⟩,by rw[lz];rfl⟩;rw[U7,Ps];exact bi
   have O3:(W.map ss).set q [.str e.t]=((n.ins.take (q+1)).map (rnS e.n e.t)++n.ins.drop (q+1)).map ss:=by
    rw[U7,←Je];unfold rnS;rw[hs];rfl
   unfold kz at hs;simp only[go_sem,aa,ae,ah,reduceCtorEq,f3,b3,f39,f40,h41,f7,b7,h46,h47,h48,hs,wq,hq2,hvi,bi,hgq,hW,ag,bp,ao,O3,hin.symm,hi3.symm,hi7.symm];refine⟨hq3,rfl,emp,nh,Ak,fun i h1 h2 h3=>?_,⟨c0,c1,c2,c3,rfl⟩,by rw[lz];rfl⟩;rw[al h3];exact hblk i h1 h2 h3
  have:q=n.ins.length:=by omega
  subst this;rw[eh,Pc,sr]at bi;simp only[go_sem,aa,reduceCtorEq,eb,h47,h48,h41,wj,hq2];refine⟨dq,⟨rfl,f3,b3,f39,f40,emp,nh,Ak,fun i hi hne=>?_⟩,by rw[lz];rfl⟩;rw[Gl,bd (by rw[hiR];rfl)];by_cases hii:i=iid
  ·subst hii;rw[ack,cu];rw[bi];unfold inB a8j;rw[hnn]
  rw[ack,gj _ _ _ _ hii];exact hblk i hi hne hii
 have:j=L.length:=by omega
 subst this;simp only[Zz,go_sem,reduceCtorEq,eb,f40,h41,hlt];exact hQ _ ⟨by simp only[],f3,b3,f39,f40,emp,nh,Ak,hblk⟩
end
theorem a4z{m:Mem}{B off:Nat}{isR:Nat→Bool}{bo:Nat→Go.PI.B}{i:Nat}:∀{j:Nat},Q6 m B off isR bo j i=m.dc i∨∃k,Q6 m B off isR bo j i=some (bo k):=by
 intro j
 induction j with
 |zero=>exact .inl rfl
 |succ j ih=>
  rw[Gl];split
  ·by_cases h:i=B+64+64*j+off
   ·subst h;exact .inr ⟨j,cu _ _ _⟩
   rw[gj _ _ _ _ h];exact ih
  exact ih
def Pp(ns:List Nd)(k:Nat)(s:ByteArray):List Nd:=ns.set k ⟨s,(ns.getD k n0).f,(ns.getD k n0).ins⟩
def Pl(t:Tr)(e:Edt)(k:Nat):Tr:=⟨t.ps,(Pp t.ns k e.t).map (a8j e.n e.t)⟩
theorem aag{α:Type}(l:List α)(k i:Nat)(x d:α)(hk:k<l.length):(l.set k x).getD i d=if i=k then x else l.getD i d:=by
 simp only[Au,so];by_cases h:k=i
 ·subst h;simp[hk]
 rw[al h,al (fun q=>h q.symm)]
theorem aah{α β:Type}(f:α→β)(l:List α)(i:Nat)(d:α)(e:β)(hi:i<l.length):(l.map f).getD i e=f (l.getD i d):=by
 simp[cw,hi]
section
variable{P:Program}(A:Pr4 P)
theorem aDi(e:Edt)(t:Tr)(hl:t.ns.length≤2^20)(Vt:∀n∈t.ns,n.ins.length≤2^30){k:Nat}(hk:k<t.ns.length)(hI:xu t e.n=(k:Int))(hJ:xu t e.t= -1){m:Mem}{u B0 b:Nat}{cs:List C}(hT:Cz m B0 t cs)(zx:m.dc u=some (.loc cs))(huB:u<B0)(hB:B0+96+64*t.ns.length+64≤b)(kl:uo m b):
  ∃m',qm P A.nu m [.ie u (m.av u) 0,.d (.agg (pk e))] m' (.d (.int ab 0))∧Cz m' B0 (Pl t e k) cs∧(∀i,i<B0→m'.dc i=m.dc i)∧m'.av=m.av∧m'.mp=m.mp∧uo m' b:=by
 have ue:=fun(x y:D) (hx:Wk x (jq t.ps)) (hy:Wk y (l5 t.ns))=>Jg A.toPr (ps:=t.ps) (ns:=t.ns) e.n (by omega) hx hy;have T6:=fun(x y:D) (hx:Wk x (jq t.ps)) (hy:Wk y (l5 t.ns))=>Jg A.toPr (ps:=t.ps) (ns:=t.ns) e.t (by omega) hx hy;rw[show(⟨t.ps,t.ns⟩:Tr)=t from rfl,hI]at ue;rw[show(⟨t.ps,t.ns⟩:Tr)=t from rfl,hJ]at T6
 have hk0:¬((k:Int)<0):=by omega
 have hkI:(k:Int)<t.ns.length:=by omega
 have qt:u≠b+3:=by omega
 have key:∀s1:PS,(∀i,i<b→s1.dc i=m.dc i∧s1.av i=m.av i)→∃x y,ju s1 cs=some [x,y]∧Wk x (jq t.ps)∧Wk y (l5 t.ns):=fun s1 h=>
  Cz.data (hT.mono (ay _) fun i h1 h2=>h i (by omega))
 obtain⟨cP,cN,cells,rfl,oP,hC,hN⟩:=hT
 have hne:t.ns≠[]:=fun h=>by rw[h]at hk;simp at hk
 obtain⟨rfl,zy⟩:=(hN.resolve_left fun h=>hne h.1).2
 have hun:u≠B0+51:=by omega
 have hn3:B0+51≠b+3:=by omega
 have hcl:=hC.1;obtain⟨cV,cI,hce,oV,oI⟩:=hC.2 k hk
 have hkc:k<cells.length:=by omega
 have hg:cells[k]? =some [.d (.str (t.ns.getD k n0).n),.d (.int ab (t.ns.getD k n0).f.k),cV,.d (ku (t.ns.getD k n0).f.ls),cI]:=by
  rw[←hce];simp[cw,hkc]
 obtain⟨Kf,a47⟩:∃c,c=cells.set k [.d (.str e.t),.d (.int ab (t.ns.getD k n0).f.k),cV,.d (ku (t.ns.getD k n0).f.ls),cI]:=⟨_,rfl⟩
 have aHc:Kf.length=t.ns.length:=by rw[a47,Ie];exact hcl
 have hLl:(Pp t.ns k e.t).length=t.ns.length:=by simp[Pp]
 have hC2:Np m (B0+32) (Pp t.ns k e.t) Kf:=by
  refine⟨by rw[a47,Ie,hLl];exact hcl,fun i hi=>?_⟩;rw[hLl]at hi;unfold Pp;rw[a47,aag _ _ _ _ _ hk,aag _ _ _ _ _ hkc];by_cases hik:i=k
  ·subst hik;rw[bd rfl,bd rfl];exact⟨cV,cI,rfl,oV,oI⟩
  rw[al hik,al hik];exact hC.2 i hi
 have aEh:∀n∈Pp t.ns k e.t,n.ins.length≤2^30:=by
  intro n hn;rcases aFn hn with h|rfl
  ·exact Vt n h
  refine Vt (t.ns.getD k n0) ?_
  have:t.ns.getD k n0=t.ns[k]:=by simp[cw,hk]
  rw[this];exact df _
 have hRR:Pl t e k=⟨t.ps,(Pp t.ns k e.t).map (a8j e.n e.t)⟩:=rfl
 generalize hL:Pp t.ns k e.t=L at*
 obtain⟨bk,hbk⟩:∃f,f=l7 (Q6 m (B0+32) 35 (inR Kf) (inB e.n e.t L) L.length) (B0+51) (some (.qi 5 Kf)):=⟨_,rfl⟩
 have bkn:bk (B0+51)=some (.qi 5 Kf):=by rw[hbk,cu]
 have bko:∀i,i≠B0+51→bk i=Q6 m (B0+32) 35 (inR Kf) (inB e.n e.t L) L.length i:=fun i hi=>by rw[hbk,gj _ _ _ _ hi]
 have bkb:∀i,b≤i→bk i=none:=fun i hi=>by
  rw[bko i (by omega),G4 fun q hq=>by omega];exact(kl i hi).1
 have Er:∀s2:PS,a2h m e b (B0+32) (B0+51) L Kf L.length s2→Clean s2.mem ⟨bk,m.av,m.mp⟩:=by
  rintro s2 ⟨eb,f3,b3,f39,f40,emp,nh,Ak,hblk⟩
  refine th (b:=b) (fun i hi=>⟨?_,(nh i hi).symm,by show m.mp i=s2.mp i;rw[emp]⟩) (fun i hi=>⟨.inl (bkb i hi),(kl i hi).2⟩)
  show bk i=s2.dc i;by_cases h:i=B0+51
  ·subst h;rw[bkn,Ak]
  rw[bko i h,hblk i hi h]
 refine⟨⟨bk,m.av,m.mp⟩,lu A.mo A.Gd (by simp) b (fun c=>?_) (fun i=>ay _) (fun i b' rp=>?_) (fun i es hi=> .inl hi) trivial,⟨cP,_,Kf,rfl,oP.mono ?_ rfl,⟨by rw[hRR,ag];exact hC2.1,fun i hi=>?_⟩,.inr ⟨?_,by rw[hRR,ag,hLl],bkn⟩⟩,fun i hi=>?_,rfl,rfl,fun i hi=>⟨bkb i hi,(kl i hi).2⟩⟩
 ·show kq P (tx A.kj) (xv m [.tmp 4] _ _) _
  rcases oP with ⟨e1,rfl⟩|⟨rfl,Ca⟩<;>
  ·simp only[tx,enter,pk,go_sem,aa,ae,ah,reduceCtorEq,ca,zx,qt];refine Ci (key _ fun i hi=>?_) ue rfl ?_
   ·simp only[aj];rw[al (by omega),al (by omega)];exact⟨rfl,rfl⟩
   simp only[go_sem,aa,ae,ah,reduceCtorEq,ca,zx,qt,hk0];refine Ci (key _ fun i hi=>?_) T6 rfl ?_
   ·simp only[aj];rw[al (by omega),al (by omega)];exact⟨rfl,rfl⟩
   simp only[go_sem,aa,ew,cq,ae,ah,reduceCtorEq,ca,zx,qt,hun,hn3,zy,hkI,hg,hcl,bp,ao,F2,←a47,aHc];refine we (fun s2=>a2h m e b (B0+32) (B0+51) L Kf L.length s2) ?_ ?_
   ·refine fp L.length (fun j s2=>a2h m e b (B0+32) (B0+51) L Kf j s2∧s2.tmp 41= .d (.int ab j)) ?_ ?_
    ·have h3b:(b+3=B0+51)=False:=by simp;omega
     refine⟨⟨rfl,?_,?_,?_,?_,rfl,fun i hi=>?_,?_,fun i hi a2x=>?_⟩,?_⟩
     ·simp only[aj,aa,bn,cz]
     ·simp only[aj,h3b,bn,cz,pk,dr,gn]
     ·simp only[aj,aa,bn,cz,hLl]
     ·simp only[aj,aa,bn,cz,hLl]
     ·simp only[aj];rw[al (by omega)]
     ·simp only[aj,cz]
     ·simp only[aj];rw[al a2x,al (by omega)];rfl
     simp only[aj,aa,bn,cz];rfl
    rintro j s2 hj ⟨hR,h41⟩;exact awt hC2 (by rw[hLl];exact hl) aEh (by rw[hLl];omega) (by omega) _ j s2 hj hR h41 fun s3 h3=>h3
   intro s2 h2;simp only[go_sem,pa,sq];exact Er s2 h2
 ·replace rp:bk i=some b':=rp;by_cases h:i=B0+51
  ·subst h;rw[bkn]at rp
   injection rp with rp
   subst rp;refine .inr fun e2 he2=>?_;obtain⟨q,hq,rfl⟩:=gf.1 he2;have:=(hC2.2 q (by rw[←hC2.1];exact hq)).wf
   have e1:Kf.getD q []=Kf[q]:=by simp[cw,hq]
   rw[e1]at this;intro c hc;have h2:=this c hc;cases c<;>exact h2
  rw[bko i h]at rp;rcases a4z (m:=m) (B:=B0+32) (off:=35) (isR:=inR Kf) (bo:=inB e.n e.t L) (i:=i) (j:=L.length)with h2|⟨q,h2⟩
  ·exact .inl (by rw[←h2];exact rp)
  rw[h2]at rp
  injection rp with rp
  subst rp;exact .inr trivial
 ·show bk _=_;rw[bko _ (by omega),G4 fun q hq=>by omega]
 ·rw[hRR,ag]at hi
  have hi2:i<t.ns.length:=by rw[←hLl];exact hi
  rw[hRR];rw[aah (a8j e.n e.t) L i n0 n0 hi];obtain⟨cV2,cI2,h1,h2,h3⟩:=hC2.2 i hi;refine⟨cV2,cI2,h1,h2.mono ?_ rfl,?_⟩
  ·show bk _=_;rw[bko _ (by omega),G4 fun q hq=>by omega]
  have hiR:inR Kf i=isRef cI2:=by unfold inR;rw[h1];rfl
  have hat:bk (B0+32+64+64*i+35)=_:=(bko _ (by omega)).trans (alo hi);rw[hiR]at hat;rcases h3 with ⟨g1,rfl⟩|⟨rfl,g2⟩
  ·refine .inl ⟨?_,rfl⟩;have:(L.getD i n0).ins=[]:=fa.1 g1;show aLy ss ((L.getD i n0).ins.map _)=[];rw[this];rfl
  refine .inr ⟨?_,?_⟩
  ·show C.ref _ (m.av _) _=C.ref _ (m.av _) _;simp[a8j]
  show bk _=_;rw[hat];rfl
 ·intro h;have h2:=congrArg Gz h;rw[hRR,ag,hLl]at h2;simp only[du]at h2;omega
 show bk i=_;rw[bko _ (by omega),G4 fun q hq=>by omega]
end
def Zw:dn:=
     (.seq (
     .region [⟨some 41,.bin .lss (.t 40) (.t 39),none,[]⟩] false []) (
     (.seq (
      (.cond (.t 41) (
      .skip) (
      .exit 1))) (
      (.seq (
      (.block 2 (
       (.seq (
       .region [⟨some 42,.xm 5 (.t 38) (.t 40),none,[]⟩,
        ⟨some 43,.load 5 true (.t 42),none,[]⟩,
        ⟨some 7,.alloc [(.str ⟨#[]⟩),(.int ab 0),.ck,.ck,.ck],none,[]⟩,
        ⟨none,.store 5 (.t 7) (.t 43),none,[]⟩] false []) (
       (.seq (
        .region [⟨some 44,.D4 1 (.t 7),none,[]⟩,
         ⟨some 45,.D4 1 (.t 44),none,[]⟩,
         ⟨some 46,.load 1 false (.t 45),none,[]⟩,
         ⟨some 47,.len .gz (.t 46),none,[]⟩,
         ⟨some 48,.ji (.c (.int ab 0)),none,[]⟩] false []) (
        (.block 3 (
        (.loop (
         (.seq (
         .region [⟨some 49,.bin .lss (.t 48) (.t 47),none,[]⟩] false []) (
         (.seq (
          (.cond (.t 49) (
          .skip) (
          .exit 3))) (
          (.seq (
          (.block 4 (
           (.seq (
           .region [⟨some 50,.ji (.t 48),none,[]⟩,
            ⟨some 8,.ji (.t 50),none,[]⟩] false []) (
           (.seq (
            .region [⟨some 51,.D4 1 (.t 7),none,[]⟩,
             ⟨some 52,.D4 1 (.t 51),none,[]⟩,
             ⟨some 53,.load 1 false (.t 52),none,[]⟩,
             ⟨some 54,.ji (.t 8),none,[]⟩,
             ⟨some 55,.xm 3 (.t 53) (.t 54),none,[]⟩,
             ⟨some 56,.D4 0 (.t 55),none,[]⟩,
             ⟨some 57,.load 1 false (.t 56),none,[]⟩,
             ⟨some 58,.D4 1 (.t 3),none,[]⟩,
             ⟨some 59,.load 1 false (.t 58),none,[]⟩,
             ⟨some 60,.bin .eql (.t 57) (.t 59),none,[]⟩] true []) (
            (.cond (.t 60) (
            .region [⟨some 61,.D4 1 (.t 7),none,[]⟩,
             ⟨some 62,.D4 1 (.t 61),none,[]⟩,
             ⟨some 63,.load 1 false (.t 62),none,[]⟩,
             ⟨some 64,.ji (.t 8),none,[]⟩,
             ⟨some 65,.D4 2 (.t 3),none,[]⟩,
             ⟨some 66,.load 1 false (.t 65),none,[]⟩,
             ⟨some 67,.xm 3 (.t 63) (.t 64),none,[]⟩,
             ⟨some 68,.D4 0 (.t 67),none,[]⟩,
             ⟨none,.store 1 (.t 68) (.t 66),none,[]⟩] false []) (
            .skip))))))))) (
          .region [⟨some 69,.bin .add (.t 48) (.c (.int ab 1)),none,[]⟩,
           ⟨some 48,.ji (.t 69),none,[]⟩] false []))))))))))))))))) (
      .region [⟨some 70,.bin .add (.t 40) (.c (.int ab 1)),none,[]⟩,
       ⟨some 40,.ji (.t 70),none,[]⟩] false []))))))
def rpV(o n:ByteArray)(v:Vl):Vl:=if kz v.n o then⟨n,v.t,v.a⟩else v
def abx(o n:ByteArray)(x:Nd):Nd:=⟨x.n,⟨x.f.k,x.f.vs.map (rpV o n),x.f.ls⟩,x.ins⟩
def vlR(cells:List (List C))(k:Nat):Bool:=isRef ((cells.getD k []).getD 2 (.d .ck))
def vlB(o n:ByteArray)(L:List Nd)(k:Nat):B:= .arr 3 ((abx o n (L.getD k n0)).f.vs.map Gj)
def a7v(m:Mem)(e:Edt)(b B nj:Nat)(L:List Nd)(cells:List (List C))(j:Nat)(s':PS):Prop:=
 s'.base=b∧s'.tmp 3= .ie (b+3) (s'.av (b+3)) 0∧s'.dc (b+3)=some (.loc ((pk e).map .d))∧s'.tmp 38= .ref nj (m.av nj) L.length∧s'.tmp 39= .d (.int ab L.length)∧s'.mp=m.mp∧(∀i,i<b→s'.av i=m.av i)∧
 s'.dc nj=some (.qi 5 cells)∧(∀i,i<b→i≠nj→s'.dc i=Q6 m B 45 (vlR cells) (vlB e.n e.t L) j i)
section
variable{P:Program}(A:Pr4 P)
theorem awq{m:Mem}{e:Edt}{b B nj:Nat}{L:List Nd}{cells:List (List C)}(hC:Np m B L cells)(hl:L.length≤2^20)(Vt:∀n∈L,n.f.vs.length≤2^30)(hB:B+64+64*L.length+64≤b)(aGx:nj<B+64)(Q:Exit→PS→Prop)(j:Nat)(s':PS)(hj:j≤L.length)
  (hR:a7v m e b B nj L cells j s')(hIx:s'.tmp 40= .d (.int ab j))(hQ:∀s2,a7v m e b B nj L cells L.length s2→Q (.exit 1) s2):kq P Zw (apg L.length j (fun j s2=>a7v m e b B nj L cells j s2∧s2.tmp 40= .d (.int ab j)) Q) s':=by
 obtain⟨eb,f3,b3,fA,fB,emp,nh,Ak,hblk⟩:=hR
 have zy:nj<b:=by omega
 have hvn:=nh nj zy;have hcl:=hC.1;by_cases hlt:(j:Int)<L.length
 ·have dq:j<L.length:=by omega
  have wj:=dh ((j:Int)+1) (by omega) (by omega);obtain⟨cI,cV,hce,oI,oV⟩:=hC.2 j dq
  have hjc:j<cells.length:=by omega
  have hg:cells[j]? =some [.d (.str (L.getD j n0).n),.d (.int ab (L.getD j n0).f.k),cI,.d (ku (L.getD j n0).f.ls),cV]:=by
   rw[←hce];simp[cw,hjc]
  have U9:L.getD j n0∈L:=by
   have:L.getD j n0=L[j]:=by simp[cw,dq]
   rw[this];exact df _
  have hli:=Vt _ U9
  have hiR:vlR cells j=isRef cI:=by unfold vlR;rw[hce];rfl
  have a65:∀i,(i=B+64+64*j+35∨i=B+64+64*j+45)→s'.dc i=m.dc i∧s'.av i=m.av i:=fun i hi=>by
   refine⟨?_,nh i (by omega)⟩;rw[hblk i (by omega) (by omega)]
   exact G4 fun k hk=>by omega
  have hV:=a65 (B+64+64*j+35) (.inl rfl);have hI:=a65 (B+64+64*j+45) (.inr rfl)
  generalize hnn:L.getD j n0=n at*
  have hv7:B+64+64*j+35≠b+7:=by omega
  have hi7:B+64+64*j+45≠b+7:=by omega
  have hi3:B+64+64*j+45≠b+3:=by omega
  have hiB:B+64+64*j+45<b:=by omega
  have hin:B+64+64*j+45≠nj:=by omega
  generalize aGp:B+64+64*j+35=vid at*
  generalize ack:B+64+64*j+45=iid at*
  simp only[pk,dr,gn]at b3;rcases oV with ⟨e1,rfl⟩|⟨rfl,hvb⟩<;>rcases oI with ⟨e2,rfl⟩|⟨rfl,hib⟩
  ·simp only[Zw,ku,go_sem,aa,ae,ah,reduceCtorEq,eb,fA,fB,hIx,Ak,hvn,hlt,hg,hcl,bp,ao];refine fp 0 (fun q s2=>a7v m e b B nj L cells (j+1) s2∧s2.tmp 40= .d (.int ab j)∧s2.tmp 47= .d (.int ab 0)∧s2.tmp 48= .d (.int ab 0)) ?_ ?_
   ·refine⟨⟨rfl,?_,?_,?_,?_,emp,fun i hi=>?_,?_,fun i hi hne=>?_⟩,?_,?_,?_⟩
    ·simp only[aj,aa,bn,f3,fu]
    ·simp only[aj,fu,aa,bn,b3,pk,dr,gn]
    ·simp only[aj,aa,bn,fA]
    ·simp only[aj,aa,bn,fB]
    ·simp only[aj];rw[al (by omega)];exact nh i hi
    ·simp only[aj];rw[al (by omega),al (by omega)];exact Ak
    ·simp only[aj];rw[al (by omega),al (by omega),hblk i hi hne];rw[Gl,al (by rw[hiR];simp[isRef])]
    ·simp only[aj,aa,bn,hIx]
    ·simp only[aj,aa,bn,cz]
    simp only[aj,aa,bn,cz]
   rintro q s2 hq ⟨⟨eb,f3,b3,fA,fB,emp,nh,Ak,hblk⟩,hIx,h47,h48⟩;simp only[go_sem,aa,reduceCtorEq,h47,h48,hIx,wj];exact⟨dq,⟨eb,f3,b3,fA,fB,emp,nh,Ak,hblk⟩,by rw[lz];rfl⟩
  ·simp only[Zw,ku,go_sem,aa,ae,ah,reduceCtorEq,eb,fA,fB,hIx,Ak,hvn,hlt,hg,hcl,bp,ao,fg,ag,hI.1,hI.2,hib,hi7]
   have hC7:∀q:List Vl,q.length=n.f.vs.length→(q.map Gj).length=n.f.vs.length:=fun q h=>by rw[ag];exact h
   refine fp n.f.vs.length (fun q s2=>s2.base=b∧s2.tmp 3= .ie (b+3) (s2.av (b+3)) 0∧s2.dc (b+3)=some (.loc ((pk e).map .d))∧s2.tmp 38= .ref nj (m.av nj) L.length∧s2.tmp 39= .d (.int ab L.length)∧s2.mp=m.mp∧(∀i,i<b→s2.av i=m.av i)∧
    s2.dc nj=some (.qi 5 cells)∧(∀i,i<b→i≠nj→i≠iid→s2.dc i=Q6 m B 45 (vlR cells) (vlB e.n e.t L) j i)∧s2.dc iid=some (.arr 3 (((n.f.vs.take q).map (rpV e.n e.t)++n.f.vs.drop q).map Gj))∧
    s2.tmp 40= .d (.int ab j)∧s2.tmp 7= .ie (b+7) (s2.av (b+7)) 0∧(∃c0 c1 c2 c3,s2.dc (b+7)=some (.loc [c0,c1,.ref iid (m.av iid) n.f.vs.length,c2,c3]))∧s2.tmp 46= .ref iid (m.av iid) n.f.vs.length∧s2.tmp 47= .d (.int ab n.f.vs.length)∧s2.tmp 48= .d (.int ab q)) ?_ ?_
   ·refine⟨rfl,?_,?_,?_,?_,emp,fun i hi=>?_,?_,fun i hi hne a2x=>?_,?_,?_,?_,⟨_,_,_,_,cu _ _ _⟩,?_,?_,?_⟩
    ·simp only[aj,aa,bn,f3,fu]
    ·simp only[aj,fu,aa,bn,b3,pk,dr,gn]
    ·simp only[aj,aa,bn,fA]
    ·simp only[aj,aa,bn,fB]
    ·simp only[aj];rw[al (by omega)];exact nh i hi
    ·simp only[aj];rw[al (by omega),al (by omega)];exact Ak
    ·simp only[aj];rw[al (by omega),al (by omega),hblk i hi hne]
    ·simp only[aj,M5,gn,Ap,adz];rw[al (by omega),al (by omega),hI.1];exact hib
    ·simp only[aj,aa,bn,hIx]
    ·simp only[aj,aa,bn,cz]
    ·simp only[aj,aa,bn,cz]
    ·simp only[aj,aa,bn,cz]
    simp only[aj,aa,bn,cz];rfl
   clear f3 b3 fA fB hIx Ak hblk eb nh emp;rintro q s2 hq ⟨eb,f3,b3,fA,fB,emp,nh,Ak,hblk,bi,hIx,f7,⟨c0,c1,c2,c3,b7⟩,h46,h47,h48⟩;have hvi:=nh iid (by omega);by_cases hq2:(q:Int)<n.f.vs.length
   ·have hq3:q<n.f.vs.length:=by omega
    have wq:=dh ((q:Int)+1) (by omega) (by omega);have hW:=a3z (rpV e.n e.t) n.f.vs hq
    have hgq:(((n.f.vs.take q).map (rpV e.n e.t)++n.f.vs.drop q).map Gj)[q]? =some [.str n.f.vs[q].n,.int ab n.f.vs[q].t,.int ab n.f.vs[q].a]:=by
     rw[cy,a07 _ _ hq3];rfl
    have U7:=Yq (rpV e.n e.t) n.f.vs hq3;have hWq:=a07 (rpV e.n e.t) n.f.vs hq3
    generalize hWl:(n.f.vs.take q).map (rpV e.n e.t)++n.f.vs.drop q=W at*
    simp only[pk,dr,gn]at b3;simp only[go_sem,aa,ae,ah,reduceCtorEq,eb,f3,b3,f7,b7,h47,h48,hq2,hvi,bi,hgq,hW,ag,bp,ao];cases hs:kz n.f.vs[q].n e.n
    ·have Ps:W.set q (rpV e.n e.t n.f.vs[q])=W:=by
      unfold rpV;rw[hs];refine ady fun i=>?_;rw[so];split
      ·rename_i h;subst h;rw[bd (by omega),hWq];simp
      rfl
     unfold kz at hs;simp only[go_sem,aa,reduceCtorEq,f3,b3,fA,fB,hIx,f7,h46,h47,h48,hs,wq];refine⟨hq3,rfl,emp,nh,Ak,hblk,?_,⟨c0,c1,c2,c3,b7⟩,by rw[lz];rfl⟩;rw[U7,Ps];exact bi
    have O3:(W.map Gj).set q [.str e.t,.int ab n.f.vs[q].t,.int ab n.f.vs[q].a]=((n.f.vs.take (q+1)).map (rpV e.n e.t)++n.f.vs.drop (q+1)).map Gj:=by
     rw[U7,←Je];unfold rpV;rw[hs];rfl
    unfold kz at hs;simp only[go_sem,aa,ae,ah,reduceCtorEq,f3,b3,fA,fB,hIx,f7,b7,h46,h47,h48,hs,wq,hq2,hvi,bi,hgq,hW,ag,bp,ao,O3,hin.symm,hi3.symm,hi7.symm];refine⟨hq3,rfl,emp,nh,Ak,fun i h1 h2 h3=>?_,⟨c0,c1,c2,c3,rfl⟩,by rw[lz];rfl⟩;rw[al h3];exact hblk i h1 h2 h3
   have:q=n.f.vs.length:=by omega
   subst this;rw[eh,Pc,sr]at bi;simp only[go_sem,aa,reduceCtorEq,eb,h47,h48,hIx,wj,hq2];refine⟨dq,⟨rfl,f3,b3,fA,fB,emp,nh,Ak,fun i hi hne=>?_⟩,by rw[lz];rfl⟩;rw[Gl,bd (by rw[hiR];rfl)];by_cases hii:i=iid
   ·subst hii;rw[ack,cu];rw[bi];unfold vlB abx;rw[hnn]
   rw[ack,gj _ _ _ _ hii];exact hblk i hi hne hii
  ·simp only[Zw,ku,go_sem,aa,ae,ah,reduceCtorEq,eb,fA,fB,hIx,Ak,hvn,hlt,hg,hcl,bp,ao,fg,ag,hV.1,hV.2,hvb,hv7];refine fp 0 (fun q s2=>a7v m e b B nj L cells (j+1) s2∧s2.tmp 40= .d (.int ab j)∧s2.tmp 47= .d (.int ab 0)∧s2.tmp 48= .d (.int ab 0)) ?_ ?_
   ·refine⟨⟨rfl,?_,?_,?_,?_,emp,fun i hi=>?_,?_,fun i hi hne=>?_⟩,?_,?_,?_⟩
    ·simp only[aj,aa,bn,f3,fu]
    ·simp only[aj,fu,aa,bn,b3,pk,dr,gn]
    ·simp only[aj,aa,bn,fA]
    ·simp only[aj,aa,bn,fB]
    ·simp only[aj];rw[al (by omega)];exact nh i hi
    ·simp only[aj];rw[al (by omega),al (by omega)];exact Ak
    ·simp only[aj];rw[al (by omega),al (by omega),hblk i hi hne];rw[Gl,al (by rw[hiR];simp[isRef])]
    ·simp only[aj,aa,bn,hIx]
    ·simp only[aj,aa,bn,cz]
    simp only[aj,aa,bn,cz]
   rintro q s2 hq ⟨⟨eb,f3,b3,fA,fB,emp,nh,Ak,hblk⟩,hIx,h47,h48⟩;simp only[go_sem,aa,reduceCtorEq,h47,h48,hIx,wj];exact⟨dq,⟨eb,f3,b3,fA,fB,emp,nh,Ak,hblk⟩,by rw[lz];rfl⟩
  simp only[Zw,ku,go_sem,aa,ae,ah,reduceCtorEq,eb,fA,fB,hIx,Ak,hvn,hlt,hg,hcl,bp,ao,fg,ag,hV.1,hV.2,hvb,hv7,hI.1,hI.2,hib,hi7]
  have hC7:∀q:List Vl,q.length=n.f.vs.length→(q.map Gj).length=n.f.vs.length:=fun q h=>by rw[ag];exact h
  refine fp n.f.vs.length (fun q s2=>s2.base=b∧s2.tmp 3= .ie (b+3) (s2.av (b+3)) 0∧s2.dc (b+3)=some (.loc ((pk e).map .d))∧s2.tmp 38= .ref nj (m.av nj) L.length∧s2.tmp 39= .d (.int ab L.length)∧s2.mp=m.mp∧(∀i,i<b→s2.av i=m.av i)∧
   s2.dc nj=some (.qi 5 cells)∧(∀i,i<b→i≠nj→i≠iid→s2.dc i=Q6 m B 45 (vlR cells) (vlB e.n e.t L) j i)∧s2.dc iid=some (.arr 3 (((n.f.vs.take q).map (rpV e.n e.t)++n.f.vs.drop q).map Gj))∧
   s2.tmp 40= .d (.int ab j)∧s2.tmp 7= .ie (b+7) (s2.av (b+7)) 0∧(∃c0 c1 c2 c3,s2.dc (b+7)=some (.loc [c0,c1,.ref iid (m.av iid) n.f.vs.length,c2,c3]))∧s2.tmp 46= .ref iid (m.av iid) n.f.vs.length∧s2.tmp 47= .d (.int ab n.f.vs.length)∧s2.tmp 48= .d (.int ab q)) ?_ ?_
  ·refine⟨rfl,?_,?_,?_,?_,emp,fun i hi=>?_,?_,fun i hi hne a2x=>?_,?_,?_,?_,⟨_,_,_,_,cu _ _ _⟩,?_,?_,?_⟩
   ·simp only[aj,aa,bn,f3,fu]
   ·simp only[aj,fu,aa,bn,b3,pk,dr,gn]
   ·simp only[aj,aa,bn,fA]
   ·simp only[aj,aa,bn,fB]
   ·simp only[aj];rw[al (by omega)];exact nh i hi
   ·simp only[aj];rw[al (by omega),al (by omega)];exact Ak
   ·simp only[aj];rw[al (by omega),al (by omega),hblk i hi hne]
   ·simp only[aj,M5,gn,Ap,adz];rw[al (by omega),al (by omega),hI.1];exact hib
   ·simp only[aj,aa,bn,hIx]
   ·simp only[aj,aa,bn,cz]
   ·simp only[aj,aa,bn,cz]
   ·simp only[aj,aa,bn,cz]
   simp only[aj,aa,bn,cz];rfl
  clear f3 b3 fA fB hIx Ak hblk eb nh emp;rintro q s2 hq ⟨eb,f3,b3,fA,fB,emp,nh,Ak,hblk,bi,hIx,f7,⟨c0,c1,c2,c3,b7⟩,h46,h47,h48⟩;have hvi:=nh iid (by omega);by_cases hq2:(q:Int)<n.f.vs.length
  ·have hq3:q<n.f.vs.length:=by omega
   have wq:=dh ((q:Int)+1) (by omega) (by omega);have hW:=a3z (rpV e.n e.t) n.f.vs hq
   have hgq:(((n.f.vs.take q).map (rpV e.n e.t)++n.f.vs.drop q).map Gj)[q]? =some [.str n.f.vs[q].n,.int ab n.f.vs[q].t,.int ab n.f.vs[q].a]:=by
    rw[cy,a07 _ _ hq3];rfl
   have U7:=Yq (rpV e.n e.t) n.f.vs hq3;have hWq:=a07 (rpV e.n e.t) n.f.vs hq3
   generalize hWl:(n.f.vs.take q).map (rpV e.n e.t)++n.f.vs.drop q=W at*
   simp only[pk,dr,gn]at b3;simp only[go_sem,aa,ae,ah,reduceCtorEq,eb,f3,b3,f7,b7,h47,h48,hq2,hvi,bi,hgq,hW,ag,bp,ao];cases hs:kz n.f.vs[q].n e.n
   ·have Ps:W.set q (rpV e.n e.t n.f.vs[q])=W:=by
     unfold rpV;rw[hs];refine ady fun i=>?_;rw[so];split
     ·rename_i h;subst h;rw[bd (by omega),hWq];simp
     rfl
    unfold kz at hs;simp only[go_sem,aa,reduceCtorEq,f3,b3,fA,fB,hIx,f7,h46,h47,h48,hs,wq];refine⟨hq3,rfl,emp,nh,Ak,hblk,?_,⟨c0,c1,c2,c3,b7⟩,by rw[lz];rfl⟩;rw[U7,Ps];exact bi
   have O3:(W.map Gj).set q [.str e.t,.int ab n.f.vs[q].t,.int ab n.f.vs[q].a]=((n.f.vs.take (q+1)).map (rpV e.n e.t)++n.f.vs.drop (q+1)).map Gj:=by
    rw[U7,←Je];unfold rpV;rw[hs];rfl
   unfold kz at hs;simp only[go_sem,aa,ae,ah,reduceCtorEq,f3,b3,fA,fB,hIx,f7,b7,h46,h47,h48,hs,wq,hq2,hvi,bi,hgq,hW,ag,bp,ao,O3,hin.symm,hi3.symm,hi7.symm];refine⟨hq3,rfl,emp,nh,Ak,fun i h1 h2 h3=>?_,⟨c0,c1,c2,c3,rfl⟩,by rw[lz];rfl⟩;rw[al h3];exact hblk i h1 h2 h3
  have:q=n.f.vs.length:=by omega
  subst this;rw[eh,Pc,sr]at bi;simp only[go_sem,aa,reduceCtorEq,eb,h47,h48,hIx,wj,hq2];refine⟨dq,⟨rfl,f3,b3,fA,fB,emp,nh,Ak,fun i hi hne=>?_⟩,by rw[lz];rfl⟩;rw[Gl,bd (by rw[hiR];rfl)];by_cases hii:i=iid
  ·subst hii;rw[ack,cu];rw[bi];unfold vlB abx;rw[hnn]
  rw[ack,gj _ _ _ _ hii];exact hblk i hi hne hii
 have:j=L.length:=by omega
 subst this;simp only[Zw,go_sem,reduceCtorEq,eb,fB,hIx,hlt];exact hQ _ ⟨by simp only[],f3,b3,fA,fB,emp,nh,Ak,hblk⟩
end
def Rf(ps:List Pm)(k:Nat)(s:ByteArray):List Pm:=ps.set k ⟨s,(ps.getD k p0).v⟩
def Me(t:Tr)(e:Edt)(k:Nat):Tr:=⟨Rf t.ps k e.t,t.ns.map (abx e.n e.t)⟩
section
variable{P:Program}(A:Pr4 P)
theorem awp(e:Edt)(t:Tr)(hl:t.ps.length≤2^20)(hI:wg t e.n= -1){m:Mem}{u B0 b:Nat}{cs:List C}(hT:Cz m B0 t cs)(zx:m.dc u=some (.loc cs))(huB:u<B0)(hB:B0+96+64*t.ns.length+64≤b)(kl:uo m b):
  qm P A.mu m [.ie u (m.av u) 0,.d (.agg (pk e))] m (.d (.int ab 4)):=by
 have ue:=fun(x y:D) (hx:Wk x (jq t.ps)) (hy:Wk y (l5 t.ns))=>Fy A.toPr (ps:=t.ps) (ns:=t.ns) e.n (by omega) hx hy;rw[show(⟨t.ps,t.ns⟩:Tr)=t from rfl,hI]at ue
 have qt:u≠b+3:=by omega
 have key:∀s1:PS,(∀i,i<b→s1.dc i=m.dc i∧s1.av i=m.av i)→∃x y,ju s1 cs=some [x,y]∧Wk x (jq t.ps)∧Wk y (l5 t.ns):=fun s1 h=>
  Cz.data (hT.mono (ay _) fun i h1 h2=>h i (by omega))
 refine lu A.mo A.Fp (by simp) b (fun c=>?_) (fun i=>ay _) (fun i b' rp=> .inl rp) (fun i es hi=> .inl hi) trivial;show kq P (qy A.j9) (xv m [.tmp 4] _ _) _;obtain⟨cP,cN,cells,rfl,oP,hC,hN⟩:=hT
 rcases oP with ⟨e1,rfl⟩|⟨rfl,Ca⟩<;>rcases hN with ⟨h0,rfl⟩|⟨h0,rfl,zy⟩<;>
 ·simp only[qy,enter,pk,go_sem,aa,ae,ah,reduceCtorEq,ca,zx,qt];refine Ci (key _ fun i hi=>?_) ue rfl ?_
  ·simp only[aj];rw[al (by omega),al (by omega)];exact⟨rfl,rfl⟩
  simp only[go_sem,aa,de,cq,reduceCtorEq,PS.mem,ag,pa,sq];exact tq kl (by omega) rfl rfl
theorem aAz(e:Edt)(t:Tr)(hl:t.ps.length≤2^20){k q:Nat}(hI:wg t e.n=(k:Int))(hJ:wg t e.t=(q:Int)){m:Mem}{u B0 b:Nat}{cs:List C}(hT:Cz m B0 t cs)(zx:m.dc u=some (.loc cs))(huB:u<B0)(hB:B0+96+64*t.ns.length+64≤b)(kl:uo m b):
  qm P A.mu m [.ie u (m.av u) 0,.d (.agg (pk e))] m (.d (.int ab 7)):=by
 have ue:=fun(x y:D) (hx:Wk x (jq t.ps)) (hy:Wk y (l5 t.ns))=>Fy A.toPr (ps:=t.ps) (ns:=t.ns) e.n (by omega) hx hy;have T6:=fun(x y:D) (hx:Wk x (jq t.ps)) (hy:Wk y (l5 t.ns))=>Fy A.toPr (ps:=t.ps) (ns:=t.ns) e.t (by omega) hx hy;rw[show(⟨t.ps,t.ns⟩:Tr)=t from rfl,hI]at ue;rw[show(⟨t.ps,t.ns⟩:Tr)=t from rfl,hJ]at T6
 have hk0:¬((k:Int)<0):=by omega
 have hq0:(q:Int)≥0:=by omega
 have qt:u≠b+3:=by omega
 have key:∀s1:PS,(∀i,i<b→s1.dc i=m.dc i∧s1.av i=m.av i)→∃x y,ju s1 cs=some [x,y]∧Wk x (jq t.ps)∧Wk y (l5 t.ns):=fun s1 h=>
  Cz.data (hT.mono (ay _) fun i h1 h2=>h i (by omega))
 refine lu A.mo A.Fp (by simp) b (fun c=>?_) (fun i=>ay _) (fun i b' rp=> .inl rp) (fun i es hi=> .inl hi) trivial;show kq P (qy A.j9) (xv m [.tmp 4] _ _) _;obtain⟨cP,cN,cells,rfl,oP,hC,hN⟩:=hT
 rcases oP with ⟨e1,rfl⟩|⟨rfl,Ca⟩<;>rcases hN with ⟨h0,rfl⟩|⟨h0,rfl,zy⟩<;>
 ·simp only[qy,enter,pk,go_sem,aa,ae,ah,reduceCtorEq,ca,zx,qt];refine Ci (key _ fun i hi=>?_) ue rfl ?_
  ·simp only[aj];rw[al (by omega),al (by omega)];exact⟨rfl,rfl⟩
  simp only[go_sem,aa,ae,ah,reduceCtorEq,ca,zx,qt,hk0];refine Ci (key _ fun i hi=>?_) T6 rfl ?_
  ·simp only[aj];rw[al (by omega),al (by omega)];exact⟨rfl,rfl⟩
  simp only[go_sem,aa,reduceCtorEq,PS.mem,ag,pa,sq,hq0];exact tq kl (by omega) rfl rfl
theorem aDh(e:Edt)(t:Tr)(hlp:t.ps.length≤2^20)(hl:t.ns.length≤2^20)(Vt:∀n∈t.ns,n.f.vs.length≤2^30){k:Nat}(hk:k<t.ps.length)(hI:wg t e.n=(k:Int))(hJ:wg t e.t= -1){m:Mem}{u B0 b:Nat}{cs:List C}(hT:Cz m B0 t cs)(zx:m.dc u=some (.loc cs))(huB:u<B0)(hB:B0+96+64*t.ns.length+64≤b)(kl:uo m b):
  ∃m',qm P A.mu m [.ie u (m.av u) 0,.d (.agg (pk e))] m' (.d (.int ab 0))∧Cz m' B0 (Me t e k) cs∧(∀i,i<B0→m'.dc i=m.dc i)∧m'.av=m.av∧m'.mp=m.mp∧uo m' b:=by
 have ue:=fun(x y:D) (hx:Wk x (jq t.ps)) (hy:Wk y (l5 t.ns))=>Fy A.toPr (ps:=t.ps) (ns:=t.ns) e.n (by omega) hx hy;have T6:=fun(x y:D) (hx:Wk x (jq t.ps)) (hy:Wk y (l5 t.ns))=>Fy A.toPr (ps:=t.ps) (ns:=t.ns) e.t (by omega) hx hy;rw[show(⟨t.ps,t.ns⟩:Tr)=t from rfl,hI]at ue;rw[show(⟨t.ps,t.ns⟩:Tr)=t from rfl,hJ]at T6
 have hk0:¬((k:Int)<0):=by omega
 have hkI:(k:Int)<t.ps.length:=by omega
 have qt:u≠b+3:=by omega
 have key:∀s1:PS,(∀i,i<b→s1.dc i=m.dc i∧s1.av i=m.av i)→∃x y,ju s1 cs=some [x,y]∧Wk x (jq t.ps)∧Wk y (l5 t.ns):=fun s1 h=>
  Cz.data (hT.mono (ay _) fun i h1 h2=>h i (by omega))
 obtain⟨cP,cN,cells,rfl,oP,hC,hN⟩:=hT
 have atd:t.ps.map ti≠[]:=fun h=>by have:=congrArg Gz h;simp at this;rw[this]at hk;simp at hk
 obtain⟨rfl,Ca⟩:=oP.ref atd
 have hup:u≠B0+15:=by omega
 have hp3:B0+15≠b+3:=by omega
 have hcl:=hC.1;have hg:=ahf hk
 have O3:(t.ps.map ti).set k [.str e.t,.int ab (t.ps.getD k p0).v]=(Rf t.ps k e.t).map ti:=by
  unfold Rf;rw[←Je];rfl
 have hPl:(Rf t.ps k e.t).length=t.ps.length:=by simp[Rf]
 obtain⟨m1,hm1⟩:∃m1,m1=m.put (B0+15) (m.av (B0+15)) (.arr 2 ((Rf t.ps k e.t).map ti)):=⟨_,rfl⟩
 have m1v:m1.av=m.av:=by
  rw[hm1];funext i;simp only[Mem.put,aj];split
  ·rename_i h;rw[h]
  rfl
 have m1p:m1.mp=m.mp:=by rw[hm1];rfl
 have m1b:∀i,i≠B0+15→m1.dc i=m.dc i:=fun i hi=>by rw[hm1];exact gj _ _ _ _ hi
 have m1P:m1.dc (B0+15)=some (.arr 2 ((Rf t.ps k e.t).map ti)):=by rw[hm1];exact cu _ _ _
 have hC2:Np m1 (B0+32) t.ns cells:=⟨hC.1,fun i hi=>(hC.2 i hi).mono (m1b _ (by omega)) (by rw[m1v]) (m1b _ (by omega)) (by rw[m1v])⟩;obtain⟨bk,hbk⟩:∃f,f=Q6 m1 (B0+32) 45 (vlR cells) (vlB e.n e.t t.ns) t.ns.length:=⟨_,rfl⟩
 have bko:∀i,(∀q,q<t.ns.length→i≠B0+32+64+64*q+45)→bk i=m1.dc i:=fun i hi=>by rw[hbk];exact G4 hi
 have bkb:∀i,b≤i→bk i=none:=fun i hi=>by
  rw[bko i fun q hq=>by omega,m1b i (by omega)];exact(kl i hi).1
 have Er:∀s2:PS,s2.mp=m.mp→(∀i,i<b→s2.av i=m.av i)→(∀i,i<b→s2.dc i=bk i)→Clean s2.mem ⟨bk,m.av,m.mp⟩:=by
  intro s2 emp nh hblk
  refine th (b:=b) (fun i hi=>⟨(hblk i hi).symm,(nh i hi).symm,by show m.mp i=s2.mp i;rw[emp]⟩) (fun i hi=>⟨.inl (bkb i hi),(kl i hi).2⟩)
 have hRR:Me t e k=⟨Rf t.ps k e.t,t.ns.map (abx e.n e.t)⟩:=rfl;refine⟨⟨bk,m.av,m.mp⟩,lu A.mo A.Fp (by simp) b (fun c=>?_) (fun i=>ay _) (fun i b' rp=>?_) (fun i es hi=> .inl hi) trivial,⟨_,cN,cells,rfl,.inr ⟨by rw[hRR,ag,ag,hPl],?_⟩,⟨by rw[hRR,ag];exact hC.1,fun i hi=>?_⟩,?_⟩,fun i hi=>?_,rfl,rfl,fun i hi=>⟨bkb i hi,(kl i hi).2⟩⟩
 ·show kq P (qy A.j9) (xv m [.tmp 4] _ _) _;rcases hN with ⟨h0,rfl⟩|⟨h0,rfl,zy⟩
  ·simp only[qy,enter,pk,go_sem,aa,ae,ah,reduceCtorEq,ca,zx,qt];refine Ci (key _ fun i hi=>?_) ue rfl ?_
   ·simp only[aj];rw[al (by omega),al (by omega)];exact⟨rfl,rfl⟩
   simp only[go_sem,aa,ae,ah,reduceCtorEq,ca,zx,qt,hk0];refine Ci (key _ fun i hi=>?_) T6 rfl ?_
   ·simp only[aj];rw[al (by omega),al (by omega)];exact⟨rfl,rfl⟩
   simp only[go_sem,aa,ew,cq,ae,ah,reduceCtorEq,ca,zx,qt,hup,hp3,Ca,hkI,hg,bp,ao,ag,O3];refine fp 0 (fun j s2=>s2.mp=m.mp∧(∀i,i<b→s2.av i=m.av i)∧(∀i,i<b→s2.dc i=bk i)∧s2.tmp 39= .d (.int ab 0)∧s2.tmp 40= .d (.int ab 0)) ?_ ?_
   ·refine⟨rfl,fun i hi=>?_,fun i hi=>?_,?_,?_⟩
    ·simp only[aj];rw[al (by omega)]
    ·rw[bko i fun q hq=>by rw[h0]at hq;exact absurd hq (by simp)];simp only[aj,hm1,Mem.put];split
     ·rfl
     rw[al (by omega)]
    ·simp only[aj,aa,bn,cz]
    simp only[aj,aa,bn,cz]
   rintro j s2 hj ⟨emp,nh,hblk,h39,h40⟩;simp only[go_sem,aa,reduceCtorEq,h39,h40,pa,sq];exact Er _ emp nh hblk
  have hn3:B0+51≠b+3:=by omega
  simp only[qy,enter,pk,go_sem,aa,ae,ah,reduceCtorEq,ca,zx,qt];refine Ci (key _ fun i hi=>?_) ue rfl ?_
  ·simp only[aj];rw[al (by omega),al (by omega)];exact⟨rfl,rfl⟩
  simp only[go_sem,aa,ae,ah,reduceCtorEq,ca,zx,qt,hk0];refine Ci (key _ fun i hi=>?_) T6 rfl ?_
  ·simp only[aj];rw[al (by omega),al (by omega)];exact⟨rfl,rfl⟩
  simp only[go_sem,aa,ew,cq,ae,ah,reduceCtorEq,ca,ag,zx,qt,hup,hp3,Ca,zy,hn3,hcl,hkI,hg,bp,ao,ag,O3];refine we (fun s2=>a7v m1 e b (B0+32) (B0+51) t.ns cells t.ns.length s2) ?_ ?_
  ·refine fp t.ns.length (fun j s2=>a7v m1 e b (B0+32) (B0+51) t.ns cells j s2∧s2.tmp 40= .d (.int ab j)) ?_ ?_
   ·have h3b:(b+3=B0+15)=False:=by simp;omega
    refine⟨⟨rfl,?_,?_,?_,?_,m1p.symm,fun i hi=>?_,?_,fun i hi a2x=>?_⟩,?_⟩
    ·simp only[aj,aa,bn,cz]
    ·simp only[aj,h3b,bn,cz,pk,dr,gn]
    ·simp only[aj,aa,bn,cz,m1v]
    ·simp only[aj,aa,bn,cz]
    ·simp only[aj,m1v];rw[al (by omega)]
    ·simp only[aj];rw[al (by omega),al (by omega)];exact zy
    ·simp only[aj,Q6,hm1,Mem.put];split
     ·rfl
     rw[al (by omega)]
    simp only[aj,aa,bn,cz];rfl
   rintro j s2 hj ⟨hR,h41⟩;exact awq hC2 hl Vt (by omega) (by omega) _ j s2 hj hR h41 fun s3 h3=>h3
  rintro s2 ⟨eb,f3,b3,fA,fB,emp,nh,Ak,hblk⟩;simp only[go_sem,pa,sq];refine Er _ (by rw[←m1p];exact emp) (fun i hi=>by rw[←m1v];exact nh i hi) fun i hi=>?_;by_cases h:i=B0+51
  ·subst h;show s2.dc _=_;rw[Ak,bko _ fun q hq=>by omega,m1b _ (by omega),zy]
  show s2.dc _=_;rw[hblk i hi h,hbk]
 ·replace rp:bk i=some b':=rp;rw[hbk]at rp;rcases a4z (m:=m1) (B:=B0+32) (off:=45) (isR:=vlR cells) (bo:=vlB e.n e.t t.ns) (i:=i) (j:=t.ns.length)with h2|⟨q,h2⟩
  ·rw[h2]at rp;by_cases h:i=B0+15
   ·subst h;rw[m1P]at rp
    injection rp with rp
    subst rp;exact .inr trivial
   exact .inl (by rw[←m1b i h];exact rp)
  rw[h2]at rp
  injection rp with rp
  subst rp;exact .inr trivial
 ·show bk _=_;rw[bko _ fun q hq=>by omega];exact m1P
 ·rw[hRR,ag]at hi;rw[hRR];rw[aah (abx e.n e.t) t.ns i n0 n0 hi];obtain⟨cV2,cI2,h1,h3,h2⟩:=hC.2 i hi;refine⟨cV2,cI2,h1,?_,h2.mono ?_ rfl⟩
  ·have hiR:vlR cells i=isRef cV2:=by unfold vlR;rw[h1];rfl
   have hat:bk (B0+32+64+64*i+45)=_:=(congrFun hbk _).trans (alo hi);rw[hiR]at hat;rcases h3 with ⟨g1,rfl⟩|⟨rfl,g2⟩
   ·refine .inl ⟨?_,rfl⟩;have:(t.ns.getD i n0).f.vs=[]:=fa.1 g1;show aLy Gj ((t.ns.getD i n0).f.vs.map _)=[];rw[this];rfl
   refine .inr ⟨?_,?_⟩
   ·show C.ref _ (m.av _) _=C.ref _ (m.av _) _;simp[abx]
   show bk _=_;rw[hat];rfl
  show bk _=_;rw[bko _ fun q hq=>by omega];exact m1b _ (by omega)
 ·rcases hN with ⟨h0,h1⟩|⟨h0,h1,h2⟩
  ·exact .inl ⟨by rw[hRR,h0];rfl,h1⟩
  refine .inr ⟨?_,?_,?_⟩
  ·intro h;have h3:=congrArg Gz h;rw[hRR,ag]at h3;exact h0 (j1 h3)
  ·rw[hRR,ag];exact h1
  show bk _=_;rw[bko _ fun q hq=>by omega,m1b _ (by omega)];exact h2
 show bk i=_;rw[bko _ fun q hq=>by omega];exact m1b _ (by omega)
end
end Go.PI
