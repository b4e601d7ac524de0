/- A part of the proof for HistoryParams: F39 to F72b. Printed from longer texts. -/
import Derived.Test.YtjhmidapljifbaaGreatDoorD
set_option linter.all false
set_option maxHeartbeats 64000000
open And renaming intro→aLb
open Array renaming eq_empty_of_size_eq_zero→Xa,getElem?_append_left→o7,getElem?_eq_getElem→bd,getElem?_eq_some_iff→ig,getElem?_modify→D4,getElem_toList→aam,length_toList→qa,size_append→Sc
open Bool renaming and_eq_true→cj,and_false→qo,and_true→Gy,eq_iff_iff→Sn,false_and→dz,false_eq_true→fk,not_eq_true'→pz,not_false→Li,not_true→aF3,or_eq_false_iff→Rc,or_eq_true→N2,or_true→aJ8,true_and→uh
open Go.IntKind renaming i64→ab,signed→aJq,wrap→P1
open Go.Proofs.SlLaysF renaming n6→a71
open Go.Shelf renaming Ren→V5
open Go.Sort renaming grow→V4,mapBlock→aaj,putCells→Cl
open Int renaming add_zero→am7,le_of_lt→aIa,le_of_mul_le_mul_right→a7c,le_total→aJ6,lt_or_gt_of_ne→am6,lt_or_le→P2,lt_trichotomy→aF7,mul_comm→zr,mul_eq_zero→C4,mul_le_mul_of_nonneg_left→Z4,mul_neg→aKt,mul_neg_of_neg_of_pos→aah,mul_nonneg→ad7,mul_nonneg_of_nonpos_of_nonpos→D3,mul_nonpos_of_nonneg_of_nonpos→Iu,mul_pos→Iy,mul_pos_of_neg_of_neg→aag,mul_zero→aJr,natCast_add→Sl,natCast_nonneg→aq,neg_mul→aKs,nonneg_of_mul_nonneg_left→ayx,nonneg_of_mul_nonneg_right→av8,reduceAdd→aF1,reduceBNe→jk,reduceLE→fp,reduceLT→dc,reduceNeg→de,reduceToNat→dv,zero_mul→am5
open List renaming all_cons→Vi,all_eq_false→a2v,all_eq_true→cz,all_nil→aJ5,any_eq_true→A9,append_assoc→oq,append_nil→y0,concat_eq_append→aIr,cons_append→xz,drop→aL7,drop_eq_getElem_cons→jq,drop_eq_nil_of_le→Sk,drop_length→am2,drop_of_length_le→a1l,drop_zero→aI9,eq_nil_of_length_eq_zero→ix,eraseIdx_eq_take_drop_succ→xy,exists_cons_of_ne_nil→aC8,ext_getElem→am1,filterMap_some→aJe,filter_append→a7a,filter_cons→aaf,flatMap_cons→ad6,flatten_cons→aut,flatten_nil→aI8,foldl_append→mc,foldl_cons→qe,foldl_nil→av5,getD→cd,getD_cons_zero→azs,getD_eq_getElem?_getD→D2,getElem?_append_left→l8,getElem?_append_right→mb,getElem?_cons_zero→dm,getElem?_drop→oo,getElem?_eq_getElem→ax,getElem?_eq_some_iff→aw,getElem?_map→cw,getElem?_set→Da,getElem_append_left→aF6,getElem_cons_zero→aI7,getElem_map→am0,getElem_mem→cy,getElem_take→a2u,length→a3h,length_append→db,length_cons→ca,length_drop→uv,length_filter_le→zg,length_map→ag,length_nil→ed,length_pos_iff→a1i,length_reverse→a1h,length_set→av4,length_take→dw,map_append→fu,map_congr_left→Cy,map_cons→gf,map_drop→aus,map_eq_nil_iff→jc,map_id→aKr,map_map→aF4,map_nil→ni,map_take→Gx,mem_append→jm,mem_append_right→V3,mem_cons→dq,mem_cons_of_mem→aad,mem_filter→C3,mem_flatMap→Ff,mem_iff_getElem→i6,mem_map→iw,mem_of_getElem?→jt,mem_of_mem_drop→av2,mem_of_mem_take→Ix,mem_range→ep,mem_singleton→X7,nil_append→N1,nodup_append→W1,nodup_cons→aF0,nodup_iff_pairwise_ne→D1,not_lt→aKq,not_mem_nil→kh,pairwise_cons→Ek,pairwise_iff_getElem→Bt,pairwise_reverse→aIp,range→dn,reduceReplicate→dh,replicate→j5,reverse_append→azr,reverse_cons→uy,reverse_nil→azq,reverse_reverse→ug,set_append_right→apl,sum_append→aJ1,sum_cons→aK6,take→aL9,take_add_one→fm,take_append_drop→Gv,take_left'→aJ0,take_length→dt,take_of_length_le→tz,take_zero→alz
open List.Perm renaming refl→aJo
open Nat renaming add_assoc→qj,add_left_cancel_iff→s7,add_sub_cancel_left→aHy,add_zero→Bw,le_of_eq→aJl,le_refl→ay,le_trans→ie,lt_or_ge→V0,lt_succ_iff_lt_or_eq→Vz,mod_eq_of_lt→aab,mod_lt→a73,not_lt_zero→aEz,reduceAdd→ae,reduceEqDiff→aa,reduceLeDiff→ah,reduceMul→ey,reducePow→azp,sub_self→Uz,sub_zero→Uy,zero_add→fj,zero_le→a3g
open Option renaming getD_some→j6,isSome→ez,map_eq_some_iff→ao,map_some→ir,toList_some→alv
open Option.some renaming inj→av0,injEq→aj
open Prod renaming ext→Q8
namespace Go.PI
open Go Go.RowKit Go.Proofs
section
variable{P:Program}(A:Pr3 P){ρ:V5}
theorem Uc{f:Nat}{B:Func}(h:Bears P f B)(hb:B.body.isSome=true):yj P f=true:=by
 obtain⟨nm,h1,h2⟩:=h;unfold yj;rw[h2];simp only[cj,bne,h1,Li,true_and];exact hb
def Uh(m:Mem)(id:Nat)(ls:List (List Sp)):Mem:=⟨lb m.da id (some (.arr 1 ((v7 ls).map fun l=>[vz l]))),m.av,m.mp⟩
theorem ahi(L:a71 P ρ)(hρ:ρ.f 6=A.ec)(ls:List (List Sp))(hlen:ls.length≤2^20)(hls:∀l∈ls,l.length≤2^20){m:Mem}{id av:Nat}(hb:m.da id=some (.arr 1 (ls.map fun l=>[vz l])))(hv:m.av id=av):
  qz P A.ec m [.ref id av ls.length,.d (.nu A.lz [])] (Uh m id ls) (.d (.Aa [])):=by
 refine⟨by rw[←hρ];exact Uc L.f6 rfl,fun s B0 w0 nt G0 G E a w vs hs hF hl hrel=>?_⟩;subst hs;have va:s.da id=some (.arr 1 (ls.map fun l=>[vz l])):=hb;have B6:vs.size=2:=hl;have h0:=hrel 0 _ vs[0] rfl (bd (by omega));have h1:=hrel 1 _ vs[1] rfl (bd (by omega));obtain⟨_,k2⟩:=h0.2 hv _ _ (vb va);obtain⟨cap,c1,c2,e0⟩:=k2 (by simp)
 have e1:vs[1]= .func (.func A.lz) #[] #[]:=by
  generalize vs[1]=v1 at h1
  cases h1 with
  |nu hz _=>rw[Xa hz]
 have ev:vs= #[.slice (some ⟨E.b id,0,none⟩) ls.length cap,.func (.func A.lz) #[] #[]]:=by
  apply Array.ext (by simpa using B6);intro i h1 h2
  match i,h1 with
  |0,_=>exact e0
  |1,_=>exact e1
  |i+2,h1=>omega
 subst ev;obtain⟨cells,et,hh,hn,hc,hw⟩:=hF.xp va;obtain⟨hB,Bc,_⟩:=hF.da id _ va
 have Ie:ls.length≤cells.size:=by have:=hc.1;simpa using this
 have az8:∀i (hi:i<ls.length),gj G (vz ls[i]) (cells[i]'(by omega)):=fun i hi=>hc.2.2 i [vz ls[i]] 0 _ _ (by simp[hi]) rfl (by simp)
 let f:Fin ls.length→El G:=fun i=>⟨(ls[i],cells[i]'(by omega)),az8 i i.2,hls _ (cy _)⟩
 obtain⟨d,hd⟩:∃d:Array (El G),d=Array.ofFn f:=⟨_,rfl⟩
 have dsz:d.size=ls.length:=by rw[hd];exact Array.size_ofFn
 have dat:∀j (hj:j<ls.length),d[j]! =⟨(ls[j],cells[j]'(by omega)),az8 j hj,hls _ (cy _)⟩:=by
  intro j hj;rw[getElem!_pos d j (by omega)];subst hd;exact Array.getElem_ofFn _
 have hblk:E.b id<w.heap.size:=(ig.1 hh).1
 have hH:Go.Sort.Holds El.enc w (E.b id) 0 d:=by
  intro j hj;rw[dsz]at hj;rw[dat j hj,fj,hw,bd (by omega)];refine⟨rfl,?_⟩;unfold World.frozen?;rw[hh];simp
 have aff:CmpLays1 P A.lz #[] (El.enc (G:=G)) El.cf (E.b id) 0 d.size w:=by
  intro mm os dk hs x y
  have hp:=(a90 A x.1.1 y.1.1 (ie x.2.2 (by omega)) (ie y.2.2 (by omega))).2 G (sortWorld El.enc w (E.b id) 0 mm dk os) #[El.enc x,El.enc y] (apt hF.gok hh Bc) rfl (by
   intro i z v hz hv
   match i,hz,hv with
   |0,hz,hv=>simp at hz hv;subst hz hv;exact x.2.1
   |1,hz,hv=>simp at hz hv;subst hz hv;exact y.2.1
   |i+2,hz,hv=>simp at hz)
  refine hp.mono ?_;rintro e w' ⟨v,G',rfl,_,_,_,aiy,hd⟩;cases hd;exact⟨rfl,aiy.grown⟩
 have Jm:=Any.slices_SortFunc L El.enc (El.one G) El.cf (El.swo G) A.lz #[] (E.b id) 0 cap d w (fun args w=>Jx (a90 A [] [] (by simp) (by simp)).1 args) aff hH hblk (by omega);rw[hρ,dsz]at Jm;refine Jm.mono ?_;rintro e w' ⟨rfl,d',n',os,⟨p1,p2,p3⟩,q,rfl⟩;refine⟨_,G,E,rfl,?_,gj.Aa rfl (by simp)⟩;have aEh:d'.size=ls.length:=p1.trans dsz
 have aDe:d'.toList.Perm d.toList:=by
  have e1:d'.extract 0 ls.length=d':=by rw[←aEh];simp
  have e2:d.extract 0 ls.length=d:=by rw[←dsz];simp
  rwa[e1,e2]at p3
 have asn:d.toList.map (fun x:El G=>x.1.1)=ls:=by
  apply am1
  ·simp[dsz]
  intro i h1 h2;have:=dat i h2;rw[getElem!_pos d i (by omega)]at this;simp only[am0,aam,this]
 have aGf:d'.toList.map (fun x:El G=>x.1.1)=v7 ls:=by
  refine ab4 ?_ ?_ (aap ls)
  ·have:=aDe.map fun x:El G=>x.1.1;rw[asn]at this;exact this.trans (Ar ls).symm
  unfold alr;rw[List.pairwise_map,Bt];intro i j h1 h2 Io;have:=q i j (a3g _) Io (by rw[qa]at h2;omega);rw[getElem!_pos d' i (by simpa using h1),getElem!_pos d' j (by simpa using h2)]at this;have h3:=of_decide_eq_false this;simp only[aam];exact h3
 have afb:(v7 ls).length=ls.length:=(Ar ls).length_eq
 have abz:∀i (hi:i<ls.length),(v7 ls)[i]'(by omega)=(d'[i]!).1.1:=by
  intro i hi;rw[getElem!_pos d' i (by omega)];simp only[←aGf,am0,aam]
 have hpc:∀k (hk:k<ls.length),(Cl El.enc 0 d' cells)[k]? =some (El.enc d'[k]!):=by
  intro k hk;unfold Cl;rw[Array.getElem?_mapIdx,bd (by omega)];simp only[ir,a3g,fj,true_and,Uy,aEh,hk,dj]
 have aDc:(Cl El.enc 0 d' cells).size=cells.size:=by unfold Cl;exact Array.size_mapIdx
 have hT:A0 w (aaj w (E.b id) (Cl El.enc 0 d')) (E.b id) (.cells (Cl El.enc 0 d' cells) et (0,0)):=by
  refine⟨rfl,rfl,rfl,rfl,by simp[aaj],fun k hk=>?_,?_⟩
  ·unfold aaj;rw[D4,al fun q=>hk q.symm]
  unfold aaj;rw[D4,bm rfl,hh];rfl
 have hHo:Go.PI.Holds G E s (Cl El.enc 0 d' cells) (.arr 1 ((v7 ls).map fun l=>[vz l])):=by
  refine⟨by rw[aDc];simpa[afb]using Ie,fun i e he=>?_,fun i e j x u he hx hu=>?_⟩
  ·simp only[cw,ao]at he;obtain⟨l,_,rfl⟩:=he;rfl
  simp only[cw,ao]at he;obtain⟨l,hl1,rfl⟩:=he;obtain⟨hi,rfl⟩:=aw.1 hl1
  have Ds:i<ls.length:=by omega
  cases j with
  |succ j=>simp at hx
  |zero=>
   simp only[dm,aj]at hx;subst hx;rw[Nat.mul_one,Bw,hpc i Ds]at hu
   injection hu with hu
   subst hu;rw[abz i Ds];exact(d'[i]!).2.1
 have hf:=hF.set va (Alike.arr (by simp[afb])) hT (by rw[aDc];exact hn) hHo;have hwe:sortWorld El.enc w (E.b id) 0 n' d' os=V4 ((aaj w (E.b id) (Cl El.enc 0 d')).drewN n') os:=rfl;have hgk:=apt hF.gok hh Bc (m:=n') (dk:=d') (os:=os);rw[hwe]at hgk⊢;refine hf.a6m (w':=V4 ((aaj w (E.b id) (Cl El.enc 0 d')).drewN n') os) ⟨⟨rfl,rfl,rfl,?_,fun k hk=>?_⟩,fun _=>Nat.le_add_right _ _⟩ (fy.kl _) hgk (fun _ _ _=>rfl) (fun _ _=>rfl)
 ·show _≤(_++os).size;rw[Sc];exact Nat.le_add_right _ _
 exact o7 hk
theorem amx(L:a71 P ρ)(hρ:ρ.f 6=A.ec)(m:Mem):qz P A.ec m [.d .cq,.d (.nu A.lz [])] m (.d (.Aa [])):=by
 refine⟨by rw[←hρ];exact Uc L.f6 rfl,fun s B0 w0 nt G0 G E a w vs hs hF hl hrel=>?_⟩;have B6:vs.size=2:=hl;have h0:=hrel 0 _ vs[0] rfl (bd (by omega))
 have e0:vs[0]= .slice none 0 0:=by
  generalize vs[0]=v0 at h0;cases h0;rfl
 have ev:vs= #[.slice none 0 0,vs[1]]:=by
  apply Array.ext (by simpa using B6);intro i h1 h2
  match i,h1 with
  |0,_=>exact e0
  |1,_=>rfl
  |i+2,h1=>omega
 rw[ev];have Jm:=AnyF.slices_SortFunc_none (P:=P) (ρ:=ρ) {L with} none 0 vs[1] w;rw[hρ]at Jm;refine Jm.mono ?_;rintro e w' ⟨rfl,rfl⟩;refine⟨_,G,E,rfl,?_,gj.Aa rfl (by simp)⟩;subst hs;exact hF
theorem adq(L:a71 P ρ)(hρ:ρ.f 6=A.ec)(ls:List (List Sp))(hlen:ls.length≤2^20)(hls:∀l∈ls,l.length≤2^20){m:Mem}{id av:Nat}(hb:m.da id=some (.arr 1 (ls.map fun l=>[vz l])))(hv:m.av id=av)(b:Nat):
  qz P A.lu m [.ref id av ls.length] (Uh m id ls) (.ref id av ls.length):=by
 have hs:=ahi A L hρ ls hlen hls hb hv;have afb:(v7 ls).length=ls.length:=(Ar ls).length_eq;refine mq A.mo A.Qv (by simp) b (fun c=>?_) (fun i=>ay _) (fun i b' va=>?_) (fun i es hi=> .inl hi) (by simp[Gu,Uh,hv])
 ·show ko P (Dc A.ec A.lz) (Bq m [.tmp 2] _ _) _;simp only[Dc,enter,go_sem,aa,reduceCtorEq];refine jr hs ?_;simp only[go_sem,aa,reduceCtorEq,PS.j0,sv,Ac];exact fun i=>⟨.inr ⟨rfl,rfl⟩,.inr ⟨rfl,rfl⟩⟩
 simp only[Uh,ak]at va;split at va
 ·injection va with va;subst va;exact .inr trivial
 exact .inl va
theorem a0o(L:a71 P ρ)(hρ:ρ.f 6=A.ec)(m:Mem)(b:Nat):qz P A.lu m [.d .cq] m (.d .cq):=by
 have hs:=amx A L hρ m;refine mq A.mo A.Qv (by simp) b (fun c=>?_) (fun i=>ay _) (fun i b' va=> .inl va) (fun i es hi=> .inl hi) trivial;show ko P (Dc A.ec A.lz) (Bq m [.tmp 2] _ _) _;simp only[Dc,enter,go_sem,aa,reduceCtorEq];refine jr hs ?_;simp only[go_sem,aa,reduceCtorEq,PS.j0,sv,Ac];exact fun i=>⟨.inr ⟨rfl,rfl⟩,.inr ⟨rfl,rfl⟩⟩
end
end Go.PI
namespace Go.PI
theorem a4q{α:Type}{a b:List α}(hl:a.length=b.length)(h:∀i (h1:i<a.length) (h2:i<b.length),a[i]=b[i]):a=b:=am1 hl h
theorem aq0{a b:Sp}:(a.1==b.1&&a.2==b.2)=decide (a=b):=by
 rw[Sn];simp only[cj,beq_iff_eq,decide_eq_true_eq];exact⟨fun h=>Q8 h.1 h.2,fun h=>by subst h;exact⟨rfl,rfl⟩⟩
section
variable{P:Program}(A:Pr3 P)
theorem aw7(a b:List Sp)(ha:a.length≤2^50)(hb:b.length≤2^50):iq P A.iu [vz a,vz b] (.bool (decide (a=b))):=by
 refine du A.mo A.Nc (by simp) ?_;show ko P w9 (lg _ _) _;by_cases hl:a.length=b.length
 ·have hlb:((a.length:Int) !=b.length)=false:=by simp[hl]
  simp only[w9,vz,go_sem,aa,reduceCtorEq,ag,hlb];refine r9 (fun s'=>a=b) ?_ ?_
  ·refine fh a.length (fun i s'=>s'.tmp 0= .d (.ft 2 (a.map Bs))∧s'.tmp 1= .d (.ft 2 (b.map Bs))∧s'.tmp 12= .d (.int ab a.length)∧s'.tmp 13= .d (.int ab i)∧∀k (h1:k<a.length) (h2:k<b.length),k<i→a[k]=b[k]) ?_ ?_
   ·simp only[go_sem,aa,reduceCtorEq];exact fun k _ _ h=>absurd h (aEz _)
   rintro i s' hi ⟨f0,f1,f12,f13,hI⟩;by_cases hlt:(i:Int)<a.length
   ·have df:i<a.length:=by omega
    have Tn:i<b.length:=by omega
    have wi:=cu ((i:Int)+1) (by omega) (by omega);have g1:=D8 df;have g2:=D8 Tn
    have e1:a.getD i (0,0)=a[i]:=by simp[cd,df]
    have e2:b.getD i (0,0)=b[i]:=by simp[cd,Tn]
    rw[e1]at g1;rw[e2]at g2;have he:(a[i].1==b[i].1&&a[i].2==b[i].2)=decide (a[i]=b[i]):=aq0;by_cases hq:a[i]=b[i]
    ·rw[decide_eq_true hq]at he;simp only[go_sem,aa,ae,reduceCtorEq,f0,f1,f12,f13,hlt,g1,g2,bp,aq,wi,df,he];refine⟨by simp,fun k h1 h2 hk=>?_⟩;rcases Vz.1 hk with hk|rfl
     ·exact hI k h1 h2 hk
     exact hq
    have hne:decide (a=b)=false:=decide_eq_false fun h=>hq (by subst h;rfl);rw[decide_eq_false hq]at he;simp only[go_sem,aa,ae,reduceCtorEq,f0,f1,f12,f13,hlt,g1,g2,bp,aq,he,hne]
   have:i=a.length:=by omega
   subst this;simp only[go_sem,reduceCtorEq,f12,f13,hlt];exact a4q hl fun k h1 h2=>hI k h1 h2 h1
  rintro s' he;have:decide (a=b)=true:=decide_eq_true he;simp only[go_sem,this]
 have hlb:((a.length:Int) !=b.length)=true:=by simp;omega
 have hne:decide (a=b)=false:=decide_eq_false fun h=>hl (by rw[h]);simp only[w9,vz,go_sem,aa,reduceCtorEq,ag,hlb,hne]
theorem ae3(a b:List (List Sp))(ha:a.length≤2^50)(hb:b.length≤2^50)(hal:∀l∈a,l.length≤2^50)(hbl:∀l∈b,l.length≤2^50):iq P A.gd [lj a,lj b,.nu A.iu []] (.bool (decide (a=b))):=by
 refine du A.mo A.Ah (by simp) ?_;show ko P lq (lg _ _) _;by_cases hl:a.length=b.length
 ·have hlb:((a.length:Int) !=b.length)=false:=by simp[hl]
  simp only[lq,lj,go_sem,aa,reduceCtorEq,ag,hlb];refine r9 (fun s'=>a=b) ?_ ?_
  ·refine fh a.length (fun i s'=>s'.tmp 15= .d (.ft 1 (a.map fun l=>[vz l]))∧s'.tmp 1= .d (.ft 1 (b.map fun l=>[vz l]))∧s'.tmp 2= .d (.nu A.iu [])∧s'.tmp 16= .d (.int ab a.length)∧s'.tmp 17= .d (.int ab i)∧∀k (h1:k<a.length) (h2:k<b.length),k<i→a[k]=b[k]) ?_ ?_
   ·simp only[go_sem,aa];exact fun k _ _ h=>absurd h (aEz _)
   rintro i s' hi ⟨f0,f1,f2,f12,f13,hI⟩;by_cases hlt:(i:Int)<a.length
   ·have df:i<a.length:=by omega
    have Tn:i<b.length:=by omega
    have wi:=cu ((i:Int)+1) (by omega) (by omega);have g1:=Fc df;have g2:=Fc Tn;have hE:=aw7 A a[i] b[i] (hal _ (cy _)) (hbl _ (cy _));simp only[vz]at hE;simp only[go_sem,aa,reduceCtorEq,f0,f1,f2,f12,f13,hlt,g1,g2,bp,aq];refine O8 hE ?_;by_cases hq:a[i]=b[i]
    ·have he:decide (a[i]=b[i])=true:=decide_eq_true hq;simp only[go_sem,aa,reduceCtorEq,f0,f1,f2,f12,f13,he,wi,df];refine⟨by simp,fun k h1 h2 hk=>?_⟩;rcases Vz.1 hk with hk|rfl
     ·exact hI k h1 h2 hk
     exact hq
    have he:decide (a[i]=b[i])=false:=decide_eq_false hq;have hne:decide (a=b)=false:=decide_eq_false fun h=>hq (by subst h;rfl);simp only[go_sem,aa,he,hne]
   have:i=a.length:=by omega
   subst this;simp only[go_sem,reduceCtorEq,f12,f13,hlt];exact a4q hl fun k h1 h2=>hI k h1 h2 h1
  rintro s' he;have:decide (a=b)=true:=decide_eq_true he;simp only[go_sem,this]
 have hlb:((a.length:Int) !=b.length)=true:=by simp;omega
 have hne:decide (a=b)=false:=decide_eq_false fun h=>hl (by rw[h]);simp only[lq,lj,go_sem,aa,reduceCtorEq,ag,hlb,hne]
theorem ahl:iq P A.gd [.cq,.cq,.nu A.iu []] (.bool true):=by
 refine du A.mo A.Ah (by simp) ?_;show ko P lq (lg _ _) _;simp only[lq,go_sem,aa,reduceCtorEq,bne_self_eq_false];refine r9 (fun s'=>True) ?_ ?_
 ·refine fh 0 (fun i s'=>s'.tmp 16= .d (.int ab 0)∧s'.tmp 17= .d (.int ab 0)) ?_ ?_
  ·simp only[go_sem,aa]
  rintro i s' hi ⟨f12,f13⟩;simp only[go_sem,reduceCtorEq,f12,f13]
 rintro s' _;simp only[go_sem]
end
theorem yg{a b:Sp}:tf a b=true↔a=b:=by
 unfold tf;rw[aq0,decide_eq_true_eq]
theorem akb(b k v:Sp):∀L:Adj,By b (s9 k v L)=if tf b k then some ((By b L).getD []++[v])else By b L:=by
 intro L
 induction L with
 |nil=>
  simp only[s9,By];split<;>simp
 |cons x r ih=>
  obtain⟨a,l⟩:=x;simp only[s9];by_cases h:tf k a=true
  ·rw[bm h];have:=yg.1 h;subst this;simp only[By];split
   ·simp
   rfl
  rw[al h];simp only[By];by_cases h2:tf b a=true
  ·have:=yg.1 h2;subst this
   have h3:¬(tf b k=true):=fun q=>h (by have:=yg.1 q;subst this;exact yg.2 rfl)
   rw[al h3,bm h2,bm h2]
  rw[al h2,ih,al h2]
def outs(es:List Ed)(b:Sp):List Sp:=(es.filter fun e=>tf b e.1).map (·.2)
def ins(es:List Ed)(b:Sp):List Sp:=(es.filter fun e=>tf b e.2).map (·.1)
theorem alg(f:Ed→Sp×Sp)(b:Sp)(es:List Ed):By b (es.foldl (fun L e=>s9 (f e).1 (f e).2 L) [])=if(es.filter fun e=>tf b (f e).1)=[]then none else some ((es.filter fun e=>tf b (f e).1).map fun e=>(f e).2):=by
 have:∀r:List Ed,By b ((r.reverse).foldl (fun L e=>s9 (f e).1 (f e).2 L) [])=if(r.reverse.filter fun e=>tf b (f e).1)=[]then none else some ((r.reverse.filter fun e=>tf b (f e).1).map fun e=>(f e).2):=by
  intro r
  induction r with
  |nil=>rfl
  |cons e r ih=>
   rw[uy,mc,a7a];simp only[qe,av5,akb,ih,aaf,List.filter_nil];by_cases h:tf b (f e).1=true
   ·simp only[h,dj,List.append_eq_nil_iff,List.cons_ne_self,and_false,ee,fu,gf,ni];split
    ·rename_i h0;rw[h0];rfl
    rfl
   simp only[h,ee,y0,fk]
 have h:=this es.reverse
 rwa[ug]at h
theorem axx(b:Sp)(es:List Ed)(h:∃e∈es,e.1=b):By b (Au es)=some (outs es b):=by
 have:=alg (fun e=>(e.1,e.2)) b es;unfold Au outs;rw[this,al];obtain⟨e,he,rfl⟩:=h;intro h0;have:e∈es.filter fun e'=>tf e.1 e'.1:=C3.2 ⟨he,yg.2 rfl⟩;rw[h0]at this;simp at this
theorem asz(b:Sp)(es:List Ed)(h:∃e∈es,e.2=b):By b (Hd es)=some (ins es b)∧ins es b≠[]:=by
 have:=alg (fun e=>(e.2,e.1)) b es;obtain⟨e,he,rfl⟩:=h;have hm:e∈es.filter fun e'=>tf e.2 e'.2:=C3.2 ⟨he,yg.2 rfl⟩
 have hne:(es.filter fun e'=>tf e.2 e'.2)≠[]:=fun h0=>by rw[h0]at hm;simp at hm
 unfold Hd ins;rw[this,al hne];exact⟨rfl,by simpa using hne⟩
theorem Qr{es:List Ed}{b x:Sp}:x∈outs es b↔(b,x)∈es:=by
 unfold outs;rw[iw];constructor
 ·rintro⟨e,he,rfl⟩;obtain⟨h1,h2⟩:=C3.1 he;have:=yg.1 h2;subst this;exact h1
 intro h;exact⟨(b,x),C3.2 ⟨h,yg.2 rfl⟩,rfl⟩
theorem abl(b fr:Sp):∀(r:List Sp) (h:Sp),r.foldl (uj b fr) h∈h::r:=by
 intro r
 induction r with
 |nil=>intro h;simp
 |cons x t ih=>
  intro h;rw[qe];have:=ih (uj b fr h x)
  have hn:uj b fr h x=h∨uj b fr h x=x:=by unfold uj;split<;>simp
  rcases hn with hn|hn<;>rw[hn]at this⊢
  ·rcases dq.1 this with h1|h1
   ·rw[h1];simp
   simp[h1]
  exact aad _ this
theorem ai8(h:Sp)(r:List Sp)(a b:Sp):a4j (h::r) a b∈h::r:=abl b (kz a b) r h
def K4(es:List Ed):Prop:=(∀e∈es,∃f∈es,f.1=e.2)∧∀e∈es,∃f∈es,f.2=e.1
def a2p(es:List Ed)(e:Ed):Ed:=(e.2,a4j (outs es e.2) e.1 e.2)
theorem afk{es:List Ed}(hc:K4 es){e:Ed}(he:e∈es):a2p es e∈es:=by
 obtain⟨f,hf,h1⟩:=hc.1 e he;unfold a2p;have hm:f.2∈outs es e.2:=Qr.2 (by rw[←h1];exact hf)
 cases ho:outs es e.2 with
 |nil=>rw[ho]at hm;simp at hm
 |cons h r=>exact Qr.1 (by rw[ho];exact ai8 h r e.1 e.2)
def zt(es:List Ed):Nat→List Ed→Ed→List Sp×List Ed
 |0,u,_=>([],u)
 |n+1,u,e=>if Mv u e then([],u)else((e.1::(zt es n (u++[e]) (a2p es e)).1),(zt es n (u++[e]) (a2p es e)).2)
theorem Lt{u:List Ed}{e:Ed}:Mv u e=true↔e∈u:=by
 unfold Mv;rw[A9];constructor
 ·rintro⟨f,hf,h⟩
  have:e=f:=by
   unfold a2r at h;simp only[cj,beq_iff_eq]at h;exact Q8 (Q8 h.1 h.2.1) (Q8 h.2.2.1 h.2.2.2)
  subst this;exact hf
 intro h;exact⟨e,h,by simp[a2r]⟩
theorem ant{α:Type}[DecidableEq α]:∀{u es:List α},u.Nodup→(∀x∈u,x∈es)→u.length≤es.length:=by
 intro u
 induction u with
 |nil=>intro es _ _;simp
 |cons x r ih=>
  intro es hn hs;rw[aF0]at hn;have h1:=ih (es:=es.erase x) hn.2 fun y hy=>(List.mem_erase_of_ne (fun h=>by subst h;exact hn.1 hy)).2 (hs y (by simp[hy]));have h2:=List.length_erase_of_mem (hs x (by simp));have h3:=List.length_pos_of_mem (hs x (by simp));simp only[ca];omega
def yq(es:List Ed)(x:List Ed×List (List Sp))(s:Ed):List Ed×List (List Sp):=
 if Mv x.1 s then x else((zt es (es.length+1) x.1 s).2,x.2++[Jy (Au es) (Hd es) (zt es (es.length+1) x.1 s).1])
def we(es:List Ed)(k:Nat):List Ed×List (List Sp):=(es.take k).foldl (yq es) ([],[])
theorem a1a{es:List Ed}{k:Nat}(h:k<es.length):we es (k+1)=yq es (we es k) (es.getD k e0):=by
 unfold we;rw[fm,mc];simp[h,cd]
end Go.PI
namespace Go.PI
open Go Go.Proofs
theorem Xd{es:List Ed}(hc:K4 es):∀(n:Nat) (u:List Ed) (e:Ed),u.Nodup→(∀x∈u,x∈es)→e∈es→
  (zt es n u e).2.Nodup∧(∀x∈(zt es n u e).2,x∈es)∧(zt es n u e).1.length≤n∧∀p∈(zt es n u e).1,∃f∈es,f.1=p:=by
 intro n
 induction n with
 |zero=>intro u e h1 h2 _;exact⟨h1,h2,by simp[zt],by simp[zt]⟩
 |succ n ih=>
  intro u e h1 h2 he;unfold zt;split
  ·exact⟨h1,h2,by simp,by simp⟩
  rename_i hm;have hn:e∉u:=fun h=>hm (Lt.2 h)
  obtain⟨k1,k2,k3,k4⟩:=ih (u++[e]) (a2p es e) (by
   rw[W1]
   exact⟨h1,by simp,fun x hx y hy=>by simp at hy;subst hy;exact fun q=>hn (q▸hx)⟩) (fun x hx=>by
   rcases jm.1 hx with hx|hx
   ·exact h2 x hx
   simp at hx;subst hx;exact he) (afk hc he)
  refine⟨k1,k2,by simp only[ca];omega,fun p hp=>?_⟩;rcases dq.1 hp with rfl|hp
  ·exact⟨e,he,rfl⟩
  exact k4 p hp
theorem amc{es:List Ed}{n:Nat}{u:List Ed}{e:Ed}(h:Mv u e=false):(zt es (n+1) u e).1≠[]:=by
 unfold zt;rw[h];simp
theorem S5{es:List Ed}(hc:K4 es):∀k,k≤es.length→(we es k).1.Nodup∧(∀x∈(we es k).1,x∈es)∧(we es k).2.length≤k∧∀l∈(we es k).2,l.length≤es.length+1:=by
 intro k
 induction k with
 |zero=>intro _;simp[we]
 |succ k ih=>
  intro hk;obtain⟨h1,h2,h3,h4⟩:=ih (by omega);rw[a1a (by omega)];unfold yq;split
  ·exact⟨h1,h2,by omega,h4⟩
  have hm:es.getD k e0∈es:=by
   have:es.getD k e0=es[k]'(by omega):=by simp[cd,show k<es.length by omega]
   rw[this];exact cy _
  obtain⟨k1,k2,k3,k4⟩:=Xd hc (es.length+1) _ _ h1 h2 hm;refine⟨k1,k2,by simp only[db,ca,ed];omega,fun l hl=>?_⟩;rcases jm.1 hl with hl|hl
  ·exact h4 l hl
  simp only[X7]at hl;subst hl;unfold Jy;rw[M0];exact ie (zg _ _) k3
theorem a3c(f:Ed→Sp×Sp)(es:List Ed):∀p∈es.foldl (fun L e=>s9 (f e).1 (f e).2 L) [],∀q∈p.2,∃e∈es,(f e).2=q:=by
 have put:∀(k v:Sp) (L:Adj) (Q:Sp→Prop),(∀p∈L,∀q∈p.2,Q q)→Q v→∀p∈s9 k v L,∀q∈p.2,Q q:=by
  intro k v L Q
  induction L with
  |nil=>intro _ hv p hp q hq;simp[s9]at hp;subst hp;simp at hq;subst hq;exact hv
  |cons x r ih=>
   obtain⟨a,l⟩:=x;intro h hv p hp q hq;simp only[s9]at hp;split at hp
   ·rcases dq.1 hp with rfl|hp
    ·rcases jm.1 hq with hq|hq
     ·exact h (a,l) (by simp) q hq
     simp at hq;subst hq;exact hv
    exact h p (by simp[hp]) q hq
   rcases dq.1 hp with rfl|hp
   ·exact h (a,l) (by simp) q hq
   exact ih (fun p hp=>h p (by simp[hp])) hv p hp q hq
 have:∀r:List Ed,∀p∈(r.reverse).foldl (fun L e=>s9 (f e).1 (f e).2 L) [],∀q∈p.2,∃e∈r,(f e).2=q:=by
  intro r
  induction r with
  |nil=>intro p hp;simp at hp
  |cons e r ih=>
   rw[uy,mc];simp only[qe,av5];exact put _ _ _ (fun q=>∃e'∈e::r,(f e').2=q) (fun p hp q hq=>by obtain⟨e',h1,h2⟩:=ih p hp q hq;exact⟨e',by simp[h1],h2⟩) ⟨e,by simp,rfl⟩
 intro p hp q hq;obtain⟨e,h1,h2⟩:=this es.reverse p (by rw[ug];exact hp) q hq;exact⟨e,by simpa using h1,h2⟩
theorem se.uu{s:PS}{id sz:Nat}{dd:List (List D)}{v:V}{ids:List Nat}(h:se s id sz dd v)(hne:ids≠[])(hi:id∉ids):se (s.uu ids) id sz dd (v.uu s ids):=by
 rcases h with ⟨h1,rfl⟩|⟨h1,rfl,h3⟩
 ·exact .inl ⟨h1,rfl⟩
 refine .inr ⟨h1,?_,?_⟩
 ·rw[a3b hne];simp only[V.uu,C.uu,al hi,C.toV]
 rw[Le hne hi];simp only[Ii,h3]
theorem aBu(s:PS)(ids:List Nat)(u:List Ed):(u.map cM).map (fun e=>(e.1,C.uu s ids e.2))=u.map cM:=by
 rw[aF4];exact Cy fun e _=>rfl
section
variable{P:Program}(A:Pr3 P){ρ:V5}
def a6y(mo mi:List (D×D))(es:List Ed)(out:List (List Sp))(i:Nat)(s':PS):Prop:=
 s'.base=0∧s'.tmp 2= .ic 2 (s'.av 2) 0∧s'.da 2=some (.loc [.d .cq])∧s'.tmp 3= .ic 3 (s'.av 3) 0∧s'.da 3=some (.loc [.d (.map mo),.d (.map mi)])∧
 s'.tmp 4= .kj 12 (s'.av 12)∧s'.tmp 13= .d (.ft 4 (es.map D5))∧s'.tmp 14= .d (.int ab es.length)∧s'.tmp 15= .d (.int ab i)∧se s' 49 1 (out.map fun l=>[vz l]) (s'.tmp 5)
theorem adv(L:a71 P ρ)(hρ:ρ.f 6=A.ec)(es:List Ed)(hes:es.length≤1000)(hc:K4 es)(hsm:∀e∈es,SmL e.1∧SmL e.2):
  iq P A.ti [R4 es] (.agg [if(we es es.length).2=[]then .cq else lj (v7 (we es es.length).2)]):=by
 refine du A.mo A.Vf (by simp) ?_;show ko P (Gp A.sf A.yp A.nq A.lu) (lg _ _) _;have hn:=akq A es (by omega);obtain⟨mo,hmo⟩:∃m,S0 (Au es)= .map m:=⟨_,rfl⟩;obtain⟨mi,hmi⟩:∃m,S0 (Hd es)= .map m:=⟨_,rfl⟩;simp only[R4,ayb,hmo,hmi]at hn;simp only[Gp,R4,go_sem,aa,reduceCtorEq];refine ff hn ?_;simp only[go_sem,aa,ae,reduceCtorEq];refine r9 (fun s'=>a6y mo mi es (we es es.length).2 es.length s') ?_ ?_
 ·refine fh es.length (fun i s'=>a6y mo mi es (we es i).2 i s'∧s'.mp 12=some ((we es i).1.map cM)) ?_ ?_
  ·simp only[a6y,go_sem,aa,ag];exact⟨se.nil,rfl⟩
  rintro i s' hi ⟨⟨eb,f2,b2,f3,b3,f4,f13,f14,f15,acc⟩,m12⟩;by_cases hlt:(i:Int)<es.length
  ·have df:i<es.length:=by omega
   have wi:=cu ((i:Int)+1) (by omega) (by omega);have hg:=D9 df
   have hgm:es.getD i e0∈es:=by
    have:es.getD i e0=es[i]:=by simp[cd,df]
    rw[this];exact cy _
   obtain⟨u1,u2,u3,u4⟩:=S5 hc i (by omega);have a11:=a1a df;unfold yq at a11
   generalize hs0:es.getD i e0=s0 at*
   have hlk:=a38 s0 (we es i).1;simp only[D5]at hlk;cases hm:Mv (we es i).1 s0
   ·rw[hm]at a11 hlk;simp only[fk,ee]at a11 hlk;simp only[go_sem,aa,ae,reduceCtorEq,PS.ents,ez,Cj,eb,f4,f13,f14,f15,m12,hlt,hg,bp,aq,hlk];refine r9 (fun s2=>a6y mo mi es (we es i).2 i s2∧s2.mp 12=some ((zt es (es.length+1) (we es i).1 s0).2.map cM)∧se s2 42 2 ((zt es (es.length+1) (we es i).1 s0).1.map Bs) (s2.tmp 8)) ?_ ?_
    ·refine fh (es.length+1) (fun k s2=>∃(u:List Ed) (e:Ed) (ac:List Sp),a6y mo mi es (we es i).2 i s2∧s2.mp 12=some (u.map cM)∧s2.tmp 9= .ic 9 (s2.av 9) 0∧s2.da 9=some (.loc [.d (.int ab e.1.1),.d (.int ab e.1.2),.d (.int ab e.2.1),.d (.int ab e.2.2)])∧se s2 42 2 (ac.map Bs) (s2.tmp 8)∧
      u.Nodup∧(∀x∈u,x∈es)∧e∈es∧u.length=(we es i).1.length+k∧ac.length=k∧zt es (es.length+1) (we es i).1 s0=(ac++(zt es (es.length+1-k) u e).1,(zt es (es.length+1-k) u e).2)) ?_ ?_
     ·refine⟨(we es i).1,s0,[],?_⟩;simp only[a6y,go_sem,aa,f2,b2,f3,b3,f4,f13,f14,f15,m12];refine⟨acc.mono (by simp[ak]) (by simp[ak]),?_⟩;exact⟨se.nil,u1,u2,hgm,rfl⟩
     clear eb f2 b2 f3 b3 f4 f13 f14 f15 acc m12;rintro k s2 hk ⟨u,e,ac,⟨eb,f2,b2,f3,b3,f4,f13,f14,f15,acc⟩,m12,f9,b9,ad1,v1,v2,v3,v4,v5,v6⟩;have hul:=ant v1 v2
     have hkn:k<es.length+1:=by omega
     obtain⟨n,hn2⟩:∃n,es.length+1-k=n+1:=⟨es.length-k,by omega⟩
     have hn3:es.length+1-(k+1)=n:=by omega
     have aiv:=a38 e u;simp only[D5]at aiv
     have ht:zt es (n+1) u e=if Mv u e then([],u)else((e.1::(zt es n (u++[e]) (a2p es e)).1),(zt es n (u++[e]) (a2p es e)).2):=rfl
     rw[hn2,ht]at v6;cases hme:Mv u e
     ·rw[hme]at v6 aiv;simp only[fk,ee]at v6 aiv;have Q0:=arc e u hme;simp only[D5]at Q0;simp only[go_sem,aa,dc,ae,ah,dh,PS.ents,ez,Cj,eb,f4,m12,f9,b9,aiv,Q0];refine s5 (dd:=ac.map Bs) (ys:=[Bs e.1]) (osz:=some 2) ?_ ?_ rfl rfl ?_ (by simp) ?_
      ·simp only[go_sem,aa];exact ad1.mono (by simp[ak]) (by simp[ak])
      ·simp only[go_sem,aa,qm];rfl
      ·simp only[ag,ca,ed];omega
      intro s3 g;have Fv:=g.acc (by simp);rw[g.tmp,ck]at Fv;simp only[fj]at Fv;have gv2:=g.av 2 (by simp[]);have gv3:=g.av 3 (by simp[]);have gv9:=g.av 9 (by simp[]);have asy:=g.av 12 (by simp[]);have aE3:=g.av 49 (by simp[])
      have gb2:s3.da 2=s2.da 2:=by rw[g.da];simp[ak]
      have gb3:s3.da 3=s2.da 3:=by rw[g.da];simp[ak]
      have gb9:s3.da 9=s2.da 9:=by rw[g.da];simp[ak]
      have aGy:s3.da 49=s2.da 49:=by rw[g.da];simp[ak]
      have gm:s3.mp 12=some ((u++[e]).map cM):=by rw[g.mp];simp[ak]
      simp only[ak,aa,reduceIte]at gv2 gv3 gv9 asy aE3;obtain⟨fo,hfo,aDw⟩:=hc.1 e v3;have hgo:=axx e.2 es ⟨fo,hfo,aDw⟩
      obtain⟨hh,hr,hhr⟩:∃hh hr,outs es e.2=hh::hr:=by
       cases ho:outs es e.2 with
       |nil=>have:=Qr.2 (show(e.2,fo.2)∈es by rw[←aDw];exact hfo);rw[ho]at this;simp at this
       |cons a r=>exact⟨a,r,rfl⟩
      have K7:∀x∈hh::hr,SmL x:=fun x hx=>(hsm _ (Qr.1 (by rw[hhr];exact hx))).2;rw[hhr]at hgo;have hol:=Un es;obtain⟨ka,hka⟩:=X5 hgo;have hrl:=hol.2 _ hka;simp only[ca]at hrl;have hnx:=aA5 A (O:=Au es) (I:=Hd es) e.1 e.2 hh hr (hsm e v3).1 (hsm e v3).2 (K7 hh (by simp)) (fun q hq=>K7 q (by simp[hq])) (by omega) hgo;rw[hmo,hmi]at hnx;simp only[ya]at hnx
      have aGm:a2p es e=(e.2,a4j (hh::hr) e.1 e.2):=by unfold a2p;rw[hhr]
      simp only[go_sem,aa,dc,fp,dv,ey,ae,ah,g.tmp,g.base,f3,b3,f9,b9,gv3,gv9,gb3,gb9];refine Gh hnx ?_;simp only[a6y,go_sem,aa,ae,ah,f2,b2,f3,b3,f4,f13,f14,f15,f9,b9,gv2,gv3,gv9,asy,gb2,gb3,gb9,gm,hkn]
      have aGa:e∉u:=fun h=>by rw[Lt.2 h]at hme;cases hme
      refine⟨u++[e],a2p es e,ac++[e.1],acc.mono ?_ ?_,rfl,by rw[aGm],?_,?_,?_,afk hc v3,by simp only[db,ca,ed];omega,by simp only[db,ca,ed];omega,?_⟩
      ·simp only[ak,aa,reduceIte,aE3]
      ·simp only[ak,aa,reduceIte,aGy]
      ·rw[fu];exact Fv.mono (by simp[ak]) (by simp[ak])
      ·rw[W1];exact⟨v1,by simp,fun x hx y hy=>by simp at hy;subst hy;exact fun q=>aGa (q▸hx)⟩
      ·intro x hx;rcases jm.1 hx with hx|hx
       ·exact v2 x hx
       simp at hx;subst hx;exact v3
      rw[v6,hn3];simp
     rw[hme]at v6 aiv;simp only[dj]at v6 aiv;simp only[a6y,go_sem,aa,ae,reduceCtorEq,PS.ents,ez,Cj,eb,f2,b2,f3,b3,f4,f13,f14,f15,m12,f9,b9,aiv,v6,y0];exact⟨acc.mono rfl rfl,ad1.mono rfl rfl⟩
    clear eb f2 b2 f3 b3 f4 f13 f14 f15 acc m12;rintro s2 ⟨⟨eb,f2,b2,f3,b3,f4,f13,f14,f15,acc⟩,m12,ad1⟩;have hl0:=amc (es:=es) (n:=es.length) hm;obtain⟨w1,w2,w3,w4⟩:=Xd hc (es.length+1) _ _ u1 u2 hgm
    generalize hT:zt es (es.length+1) (we es i).1 s0=T at*
    obtain⟨l,uf⟩:=T;simp only at hl0 w1 w2 w3 w4 a11 m12 ad1;rcases ad1 with ⟨h0,_⟩|⟨_,f8,b42⟩
    ·exact absurd (by simpa using h0) hl0
    simp only[go_sem];refine T7 [42] ?_
    have hne:[42]≠[]:=by simp
    have n2:=Jt (s:=s2) hne 2;have n3:=Jt (s:=s2) hne 3;have n4:=Jt (s:=s2) hne 4;have n8:=Jt (s:=s2) hne 8;have n13:=Jt (s:=s2) hne 13;have n14:=Jt (s:=s2) hne 14;have n15:=Jt (s:=s2) hne 15;have n5:=Jt (s:=s2) hne 5;have nb2:=Le (s:=s2) hne (i:=2) (by simp);have nb3:=Le (s:=s2) hne (i:=3) (by simp);have nm:=ac7 (s:=s2) hne (i:=12) (by simp);have nv:=a3b (s:=s2) hne;have az4:=Ty [42] s2;have aAy:=acc.uu hne (by simp)
    have aGp:s2.dd 42 (s2.av 42)=some (2,l.map Bs):=by unfold PS.dd;rw[bm rfl,b42]
    rw[eb]at az4;simp only[f2,f3,f4,f8,f13,f14,f15,V.uu,C.uu,C.toV,dq,kh,or_false,aa,ee,dj,aGp]at n2 n3 n4 n8 n13 n14 n15;simp only[Ii,b2,b3,gf,ni,C.uu]at nb2 nb3;simp only[a9y,m12,ir,aBu]at nm;rw[←n5]at aAy
    generalize s2.uu [42]=s4 at*
    rw[←nv]at n2 n3 n4
    have hbg:=aku A (O:=Au es) (I:=Hd es) l hl0 (by omega) (fun p hp=>by
     obtain⟨f,hf,rfl⟩:=w4 p hp;refine⟨(hsm f hf).1,?_⟩;obtain⟨gg,hgg,hg2⟩:=hc.2 f hf;obtain⟨k1,k2⟩:=asz f.1 es ⟨gg,hgg,hg2⟩;obtain⟨a,li,hal⟩:=aC8 k2
     exact⟨a,li,by rw[k1,hal]⟩) (fun p hp=>⟨ie ((Un es).2 p hp) (by omega),fun q hq=>?_⟩) (fun p hp q hq=>?_)
    ·rw[hmo,hmi]at hbg;simp only[vz]at hbg;have hll:(l.map Bs).length=l.length:=ag _;simp only[go_sem,aa,ae,az4,n3,n8,nb3];refine il hbg ?_;have aI1:∀(tm:Nat→V),se {s4 with tmp:=tm} 49 1 ((we es i).2.map fun l=>[vz l]) (s4.tmp 5):=fun tm=>aAy.mono rfl rfl;simp only[go_sem,aa,dh];refine s5 (dd:=(we es i).2.map fun l=>[vz l]) (ys:=[[vz (Jy (Au es) (Hd es) l)]]) (osz:=some 1) ?_ ?_ rfl rfl ?_ (by simp) ?_
     ·simp only[go_sem,aa];exact aAy.mono (by simp[ak]) (by simp[ak])
     ·simp only[go_sem,aa,qm];rfl
     ·simp only[ag,ca,ed];omega
     intro s3 g;have Fv:=g.acc (by simp);rw[g.tmp,ck]at Fv;simp only[fj]at Fv;have gv2:=g.av 2 (by simp[]);have gv3:=g.av 3 (by simp[]);have asy:=g.av 12 (by simp[])
     have gb2:s3.da 2=s4.da 2:=by rw[g.da];simp[ak]
     have gb3:s3.da 3=s4.da 3:=by rw[g.da];simp[ak]
     have gm:s3.mp 12=s4.mp 12:=by rw[g.mp]
     simp only[ak,aa,reduceIte]at gv2 gv3 asy;simp only[a6y,go_sem,aa,reduceCtorEq,g.tmp,g.base,n2,n3,n4,n13,n14,n15,nb2,nb3,nm,gv2,gv3,asy,gb2,gb3,gm,wi,df,a11];refine⟨by rw[Sl];rfl,?_⟩;rw[fu];exact Fv.mono rfl rfl
    ·obtain⟨e,he,rfl⟩:=a3c (fun e=>(e.1,e.2)) es p hp q hq;exact(hsm e he).2
    obtain⟨e,he,rfl⟩:=a3c (fun e=>(e.2,e.1)) es p hp q hq;exact(hsm e he).1
   rw[hm]at a11 hlk;simp only[dj]at a11 hlk;simp only[a6y,go_sem,aa,ae,reduceCtorEq,PS.ents,ez,Cj,eb,f2,b2,f3,b3,f4,f13,f14,f15,m12,hlt,hg,bp,aq,hlk,wi,df,a11];exact⟨by rw[Sl];rfl,acc.mono (by simp[ak]) (by simp[ak])⟩
  have:i=es.length:=by omega
  subst this;simp only[a6y,go_sem,aa,reduceCtorEq,eb,f2,b2,f3,b3,f4,f13,f14,f15,hlt];exact acc.mono rfl rfl
 rintro s' ⟨eb,f2,b2,f3,b3,f4,f13,f14,f15,acc⟩;obtain⟨_,_,c3,c4⟩:=S5 hc es.length (ay _)
 generalize(we es es.length).2=out at*
 rcases acc with ⟨h0,f5⟩|⟨h0,f5,b49⟩
 ·have h0':out=[]:=by simpa using h0
  rw[bm h0'];simp only[go_sem,eb,f5];refine jr (a0o A L hρ _ 1000) ?_;simp only[go_sem,aa,PS.j0,PS.mem,f2,b2]
 have h0':¬out=[]:=by simpa using h0
 rw[al h0'];simp only[go_sem,eb,f5,ag];refine jr (adq A L hρ out (by omega) (fun l hl=>ie (c4 l hl) (by omega)) (by simp only[PS.mem];exact b49) rfl 1000) ?_;have afb:(v7 out).length=out.length:=(Ar out).length_eq;simp only[go_sem,aa,PS.j0,PS.mem,Uh,f2,b2,lj,ag,afb,gq]
end
def okL(l:List Sp):Bool:=decide (3≤l.length)&&l.all Fl
def C9(ls:List (List Sp)):List (List Sp):=ls.map (Jy (Au (gr ls)) (Hd (gr ls)))
def Hh(ls:List (List Sp)):List (List Sp):=(we (gr ls) (gr ls).length).2
def Xh(ls:List (List Sp)):Bool:=decide (uz ls≤60)&&decide (ls.length≤60)
def mf(ls:List (List Sp)):Bool:=Xh ls&&(ls.all okL&&(Re (gr ls)&&(S8 (gr ls)&&decide (v7 (C9 ls)=v7 (Hh ls)))))
def a08(ls:List (List Sp)):D:=if Hh ls=[]then .cq else lj (v7 (Hh ls))
theorem Rz{ls:List (List Sp)}(h:∀l∈ls,3≤l.length):K4 (gr ls):=by
 have at_:∀(l:List Sp) (k:Nat),l∈ls→k<l.length→An l k∈gr ls:=by
  intro l k hl hk;unfold gr;rw[Ff];exact⟨l,hl,by unfold ja;exact iw.2 ⟨k,ep.2 hk,rfl⟩⟩
 have of:∀e∈gr ls,∃l∈ls,∃k,k<l.length∧e=An l k:=by
  intro e he;unfold gr at he;obtain⟨l,hl,he⟩:=Ff.1 he;unfold ja at he;obtain⟨k,hk,rfl⟩:=iw.1 he;exact⟨l,hl,k,ep.1 hk,rfl⟩
 refine⟨fun e he=>?_,fun e he=>?_⟩
 ·obtain⟨l,hl,k,hk,rfl⟩:=of e he;exact⟨_,at_ l ((k+1)%l.length) hl (a73 _ (by omega)),rfl⟩
 obtain⟨l,hl,k,hk,rfl⟩:=of e he;refine⟨_,at_ l ((k+(l.length-1))%l.length) hl (a73 _ (by omega)),?_⟩;have h3:=h l hl
 have:((k+(l.length-1))%l.length+1)%l.length=k:=by
  rw[Nat.mod_add_mod,show k+(l.length-1)+1=k+l.length by omega,Nat.add_mod_right];exact aab hk
 show l.getD (((k+(l.length-1))%l.length+1)%l.length) (0,0)=l.getD k (0,0);rw[this]
theorem ajz(es:List Ed)(x:List Ed×List (List Sp))(l:List Ed):x.2.length≤(l.foldl (yq es) x).2.length:=by
 induction l generalizing x with
 |nil=>exact ay _
 |cons e r ih=>
  rw[qe];refine ie ?_ (ih _);unfold yq;split
  ·exact ay _
  simp
theorem aty{es:List Ed}(h:es≠[]):(we es es.length).2≠[]:=by
 cases es with
 |nil=>exact absurd rfl h
 |cons e r=>
  intro h0;have:=ajz (e::r) (yq (e::r) ([],[]) e) r;unfold we at h0;rw[dt,qe]at h0;rw[h0]at this;simp[yq,Mv]at this
theorem atj{ls:List (List Sp)}(h:ls≠[])(h3:∀l∈ls,3≤l.length):gr ls≠[]:=by
 intro h0;have hl:=Ng ls;rw[h0]at hl
 cases ls with
 |nil=>exact h rfl
 |cons l r=>
  have:=h3 l (by simp);simp[uz]at hl;omega
theorem aa8{ls:List (List Sp)}(h3:∀l∈ls,3≤l.length):Hh ls=[]↔ls=[]:=by
 constructor
 ·intro h;by_cases h0:ls=[]
  ·exact h0
  exact absurd h (aty (atj h0 h3))
 rintro rfl;rfl
theorem Y7{ls:List (List Sp)}{l:List Sp}(h:l∈ls):l.length≤uz ls:=by
 unfold uz
 induction ls with
 |nil=>simp at h
 |cons x r ih=>
  simp only[gf,aK6];rcases dq.1 h with rfl|h
  ·omega
  have:=ih h;omega
theorem as5{ls:List (List Sp)}{l:List Sp}{s:Sp}(hl:l∈ls)(hs:s∈l):∃e∈gr ls,e.1=s:=by
 obtain⟨k,hk,rfl⟩:=i6.1 hs;refine⟨An l k,?_,?_⟩
 ·unfold gr;rw[Ff];exact⟨l,hl,by unfold ja;exact iw.2 ⟨k,ep.2 hk,rfl⟩⟩
 unfold An;simp[cd,hk]
theorem anh(l:List Sp):((dn l.length).any fun i=> !Fl (l.getD i (0,0)))= !(l.all Fl):=by
 rw[Sn];simp only[A9,ep,pz,a2v];constructor
 ·rintro⟨i,hi,h⟩;refine⟨l[i],cy _,?_⟩
  have:l.getD i (0,0)=l[i]:=by simp[cd,hi]
  rw[this]at h;simp[h]
 rintro⟨x,hx,h⟩;obtain⟨i,hi,rfl⟩:=i6.1 hx;refine⟨i,hi,?_⟩
 have:l.getD i (0,0)=l[i]:=by simp[cd,hi]
 rw[this];simpa using h
def auo(ls:List (List Sp))(s':PS):Prop:=
 s'.base=0∧s'.tmp 1= .ic 1 (s'.av 1) 0∧s'.da 1=some (.loc [.d (.ft 1 (ls.map fun l=>[vz l]))])∧s'.tmp 2= .ic 2 (s'.av 2) 0∧s'.da 2=some (.loc [.d .cq])
section
variable{P:Program}(A:Pr3 P){ρ:V5}
theorem aq9(L:a71 P ρ)(hρ:ρ.f 6=A.ec)(ls:List (List Sp))(h1:ls.length≤2^30)(h2:∀l∈ls,l.length≤2^30):
  iq P A.uq [.agg [lj ls]] (.Aa [if mf ls then .agg [a08 ls]else .agg [.cq],.int ab (if mf ls then 0 else 170)]):=by
 refine du A.mo A.a5j (by simp) ?_;show ko P (Nw A.s6 A.ly A.yo A.oh A.B9 A.Ba A.ti A.sf A.nq A.lu A.gd A.iu) (lg _ _) _;have hsp:=avq A.toPr ls h1 h2;have eL:lj ls= .ft 1 (ls.map fun l=>[vz l]):=rfl;simp only[eL]at hsp;rw[eL];simp only[Nw,go_sem,aa];refine ff hsp ?_
 have szF:Xh ls=false→mf ls=false:=fun h=>by unfold mf;rw[h];rfl
 by_cases c1:(uz ls:Int)>60
 ·have hb:=szF (by unfold Xh;rw[decide_eq_false (by omega)];rfl);rw[hb];simp only[go_sem,aa,reduceCtorEq,c1]
 by_cases c2:(ls.length:Int)>60
 ·have hb:=szF (by unfold Xh;rw[decide_eq_false (show¬ls.length≤60 by omega),qo]);rw[hb];simp only[go_sem,aa,reduceCtorEq,c1,c2,ag]
 simp only[go_sem,aa,reduceCtorEq,c1,c2,ag];refine r9 (fun s'=>auo ls s'∧∀l∈ls,okL l=true) ?_ ?_
 ·refine fh ls.length (fun i s'=>auo ls s'∧s'.tmp 23= .d (.ft 1 (ls.map fun l=>[vz l]))∧s'.tmp 24= .d (.int ab ls.length)∧s'.tmp 25= .d (.int ab i)∧∀k (h:k<ls.length),k<i→okL ls[k]=true) ?_ ?_
  ·simp only[auo,go_sem,aa];exact fun k _ h=>absurd h (aEz _)
  rintro i s' hi ⟨⟨eb,f1,b1,f2,b2⟩,f23,f24,f25,hI⟩;by_cases hlt:(i:Int)<ls.length
  ·have df:i<ls.length:=by omega
   have wi:=cu ((i:Int)+1) (by omega) (by omega);have hg:=Fc df;have hli:=h2 _ (cy df)
   have axu:okL ls[i]=false→mf ls=false:=fun h=>by
    have:ls.all okL=false:=a2v.2 ⟨_,cy df,by rw[h];simp⟩;unfold mf;rw[this];simp
   have aix:=aqu A.toPr (l:=ls[i]) (g:=A.yo) (iy:=[]) (p:=fun k=> !Fl (ls[i].getD k (0,0))) (fun k hk=>by
    have:ls[i].getD k (0,0)=ls[i][k]:=by simp[cd,hk]
    rw[this]
    exact avt A.toPr _) (by omega)
   rw[anh]at aix;simp only[vz]at aix;simp only[go_sem,aa,reduceCtorEq,eb,f23,f24,f25,hlt,hg,bp,aq,ag];by_cases c3:(ls[i].length:Int)<3
   ·rw[axu (by unfold okL;rw[decide_eq_false (show¬3≤ls[i].length by omega)];rfl)];simp only[go_sem,aa,f2,b2,c3]
   simp only[go_sem,aa,c3];refine il aix ?_;cases c4:ls[i].all Fl
   ·rw[axu (by unfold okL;rw[c4,qo])];simp only[go_sem,aa,f2,b2]
   simp only[auo,go_sem,aa,reduceCtorEq,f1,b1,f2,b2,f23,f24,f25,wi,df];refine⟨by rw[Sl];rfl,fun k hk hk2=>?_⟩;rcases Vz.1 hk2 with h|rfl
   ·exact hI k hk h
   unfold okL;rw[c4,decide_eq_true (show 3≤ls[k].length by omega)];rfl
  have:i=ls.length:=by omega
  subst this;simp only[auo,go_sem,aa,reduceCtorEq,eb,f1,b1,f2,b2,f24,f25,hlt];intro l hl;obtain⟨k,hk,rfl⟩:=i6.1 hl;exact hI k hk hk
 rintro s' ⟨⟨eb,f1,b1,f2,b2⟩,hok⟩
 have h3:∀l∈ls,3≤l.length:=fun l hl=>by
  have:=hok l hl;unfold okL at this;simp only[cj,decide_eq_true_eq]at this;exact this.1
 have hsm:∀e∈gr ls,SmL e.1∧SmL e.2:=fun e he=>by
  obtain⟨l,hl,m1,m2⟩:=a9n he;have:=hok l hl;unfold okL at this;simp only[cj,cz]at this;exact⟨Nk (this.2 _ m1),Nk (this.2 _ m2)⟩
 have hcl:=Rz h3
 have hel:(gr ls).length≤60:=by rw[Ng];omega
 have hall:ls.all okL=true:=cz.2 hok
 have B6:Xh ls=true:=by unfold Xh;rw[decide_eq_true (by omega),decide_eq_true (by omega)];rfl
 have hpB:mf ls=(Re (gr ls)&&(S8 (gr ls)&&decide (v7 (C9 ls)=v7 (Hh ls)))):=by unfold mf;rw[hall,B6];rfl
 have hse:=ahf A.toPr ls h1 (by omega);have hsi:=aq7 A.toPr (gr ls) (by omega) hsm;have hbo:=aqi A.toPr (gr ls) (by omega) hsm;rw[eL]at hse;simp only[R4]at hse hsi hbo;simp only[go_sem,eb,f1,b1];refine ff hse ?_;simp only[go_sem,aa];refine ff hsi ?_;cases c5:Re (gr ls)
 ·rw[c5]at hpB;rw[hpB];simp only[go_sem,aa,f2,b2,dz]
 simp only[go_sem,aa];refine ff hbo ?_;cases c6:S8 (gr ls)
 ·rw[c5,c6]at hpB;rw[hpB];simp only[go_sem,aa,f2,b2,dz,uh]
 rw[c5,c6]at hpB;simp only[uh]at hpB;have hca:=adv A L hρ (gr ls) (by omega) hcl hsm;have hne:=akq A (gr ls) (by omega);obtain⟨mo,hmo⟩:∃m,S0 (Au (gr ls))= .map m:=⟨_,rfl⟩;obtain⟨mi,hmi⟩:∃m,S0 (Hd (gr ls))= .map m:=⟨_,rfl⟩;simp only[R4,ayb,hmo,hmi]at hca hne;have axt:iq P A.ti [.ft 4 ((gr ls).map D5)] (.agg [a08 ls]):=hca
 have hbg:∀l∈ls,iq P A.nq [.agg [.map mo,.map mi],.ft 2 (l.map Bs)] (.ft 2 ((Jy (Au (gr ls)) (Hd (gr ls)) l).map Bs)):=by
  intro l hl
  have hlt:l.length≤60:=by
   have:=Y7 hl;omega
  have:=aku A (O:=Au (gr ls)) (I:=Hd (gr ls)) l (fun h=>by have:=h3 l hl;rw[h]at this;simp at this) (by omega) (fun p hp=>?_) (fun p hp=>⟨ie ((Un (gr ls)).2 p hp) (by omega),fun q hq=>?_⟩) (fun p hp q hq=>?_)
  ·rw[hmo,hmi]at this;exact this
  ·obtain⟨e,he,rfl⟩:=as5 hl hp;refine⟨(hsm e he).1,?_⟩;obtain⟨gg,hgg,hg2⟩:=hcl.2 e he;obtain⟨k1,k2⟩:=asz e.1 (gr ls) ⟨gg,hgg,hg2⟩;obtain⟨a,li,hal⟩:=aC8 k2;exact⟨a,li,by rw[k1,hal]⟩
  ·obtain⟨e,he,rfl⟩:=a3c (fun e=>(e.1,e.2)) (gr ls) p hp q hq;exact(hsm e he).2
  obtain⟨e,he,rfl⟩:=a3c (fun e=>(e.2,e.1)) (gr ls) p hp q hq;exact(hsm e he).1
 rcases(show(ls=[]∧a08 ls= .cq)∨(ls≠[]∧a08 ls= .ft 1 ((v7 (Hh ls)).map fun l=>[vz l]))by
  unfold a08;by_cases hl0:ls=[]
  ·exact .inl ⟨hl0,bm ((aa8 h3).2 hl0)⟩
  exact .inr ⟨hl0,al fun h=>hl0 ((aa8 h3).1 h)⟩)with ⟨hl0,hX⟩|⟨hl0,hX⟩
 ·rw[hX]at axt⊢;simp only[go_sem,aa];refine ff axt ?_;simp only[go_sem,aa];refine ff hne ?_;simp only[go_sem,aa,ae,f1,b1]
  have aGe:ls.length=0:=by rw[hl0];rfl
  simp only[ag,aGe];refine r9 (fun s2=>s2.base=0∧s2.tmp 2= .ic 2 (s2.av 2) 0∧s2.da 2=some (.loc [.d .cq])∧s2.tmp 7= .ic 7 (s2.av 7) 0∧s2.da 7=some (.loc [.d .cq])∧s2.tmp 9= .d .cq) ?_ ?_
  ·refine fh 0 (fun i s2=>s2.base=0∧s2.tmp 2= .ic 2 (s2.av 2) 0∧s2.da 2=some (.loc [.d .cq])∧s2.tmp 7= .ic 7 (s2.av 7) 0∧s2.da 7=some (.loc [.d .cq])∧s2.tmp 9= .d .cq∧s2.tmp 55= .d (.int ab 0)∧s2.tmp 56= .d (.int ab 0)) ?_ ?_
   ·simp only[go_sem,aa,f2,b2]
   clear eb f1 b1 f2 b2;rintro i s2 hi ⟨eb,f2,b2,f7,b7,f9,f55,f56⟩;simp only[go_sem,aa,reduceCtorEq,eb,f2,b2,f7,b7,f9,f55,f56]
  clear eb f1 b1 f2 b2;rintro s2 ⟨eb,f2,b2,f7,b7,f9⟩
  have hd:decide (v7 (C9 ls)=v7 (Hh ls))=true:=by subst hl0;exact decide_eq_true rfl
  rw[hd]at hpB;rw[hpB];simp only[go_sem];refine aky (fun s3=>s3.base=0∧s3.tmp 2= .ic 2 (s3.av 2) 0∧s3.da 2=some (.loc [.d .cq])∧s3.tmp 7= .ic 7 (s3.av 7) 0∧s3.da 7=some (.loc [.d .cq])∧s3.tmp 72= .d (.bool false)) ?_ ?_
  ·simp only[agz,go_sem,aa,eb,f7,b7,f9]
   repeat' apply aLb
   all_goals
    refine jr (a0o A L hρ _ 1000) ?_;simp only[go_sem,aa,PS.j0,PS.mem,f7,b7];refine Gh (ahl A) ?_;simp only[go_sem,aa,f2,b2,f7,b7]
  clear eb f2 b2 f7 b7 f9;rintro s3 ⟨eb,f2,b2,f7,b7,f72⟩;simp only[go_sem,aa,eb,f2,b2,f7,b7,f72]
 rw[hX]at axt⊢;simp only[go_sem,aa];refine ff axt ?_;simp only[go_sem,aa];refine ff hne ?_;simp only[go_sem,aa,ae,f1,b1,ag]
 refine r9 (fun s2=>s2.base=0∧s2.tmp 2= .ic 2 (s2.av 2) 0∧s2.da 2=some (.loc [.d .cq])∧s2.tmp 7= .ic 7 (s2.av 7) 0∧s2.da 7=some (.loc [.d (.ft 1 ((v7 (Hh ls)).map fun l=>[vz l]))])∧
  se s2 65 1 ((C9 ls).map fun l=>[vz l]) (s2.tmp 9)) ?_ ?_
 ·refine fh ls.length (fun i s2=>s2.base=0∧s2.tmp 1= .ic 1 (s2.av 1) 0∧s2.da 1=some (.loc [.d (.ft 1 (ls.map fun l=>[vz l]))])∧s2.tmp 2= .ic 2 (s2.av 2) 0∧s2.da 2=some (.loc [.d .cq])∧s2.tmp 7= .ic 7 (s2.av 7) 0∧s2.da 7=some (.loc [.d (.ft 1 ((v7 (Hh ls)).map fun l=>[vz l]))])∧
   s2.tmp 8= .ic 8 (s2.av 8) 0∧s2.da 8=some (.loc [.d (.map mo),.d (.map mi)])∧s2.tmp 54= .d (.ft 1 (ls.map fun l=>[vz l]))∧s2.tmp 55= .d (.int ab ls.length)∧s2.tmp 56= .d (.int ab i)∧
   se s2 65 1 ((C9 (ls)|>.take i).map fun l=>[vz l]) (s2.tmp 9)) ?_ ?_
  ·simp only[go_sem,aa,f1,b1,f2,b2,ni];exact se.nil
  clear eb f1 b1 f2 b2;rintro i s2 hi ⟨eb,f1,b1,f2,b2,f7,b7,f8,b8,f54,f55,f56,acc⟩;by_cases hlt:(i:Int)<ls.length
  ·have df:i<ls.length:=by omega
   have wi:=cu ((i:Int)+1) (by omega) (by omega);have hg:=Fc df;have hb:=hbg ls[i] (cy _)
   have hot:(C9 ls).take (i+1)=(C9 ls).take i++[Jy (Au (gr ls)) (Hd (gr ls)) ls[i]]:=by
    unfold C9;rw[←Gx,←Gx,fm,fu];simp[df]
   have hol:(C9 ls).length=ls.length:=by unfold C9;simp
   simp only[go_sem,aa,ae,reduceCtorEq,eb,f8,b8,f54,f55,f56,hlt,hg,bp,aq];refine il hb ?_;simp only[go_sem,aa,dh];refine s5 (dd:=((C9 ls).take i).map fun l=>[vz l]) (ys:=[[vz (Jy (Au (gr ls)) (Hd (gr ls)) ls[i])]]) (osz:=some 1) ?_ ?_ rfl rfl ?_ (by simp) ?_
   ·simp only[go_sem,aa];exact acc.mono (by simp[ak]) (by simp[ak])
   ·simp only[go_sem,aa,qm];rfl
   ·simp only[ag,ca,ed,dw];omega
   intro s3 g;have Fv:=g.acc (by simp);rw[g.tmp,ck]at Fv;simp only[fj]at Fv;have gv1:=g.av 1 (by simp[]);have gv2:=g.av 2 (by simp[]);have gv7:=g.av 7 (by simp[]);have gv8:=g.av 8 (by simp[])
   have gb1:s3.da 1=s2.da 1:=by rw[g.da];simp[ak]
   have gb2:s3.da 2=s2.da 2:=by rw[g.da];simp[ak]
   have gb7:s3.da 7=s2.da 7:=by rw[g.da];simp[ak]
   have gb8:s3.da 8=s2.da 8:=by rw[g.da];simp[ak]
   simp only[ak,aa,reduceIte]at gv1 gv2 gv7 gv8;simp only[go_sem,aa,reduceCtorEq,g.tmp,g.base,f1,b1,f2,b2,f7,b7,f8,b8,f54,f55,f56,gv1,gv2,gv7,gv8,gb1,gb2,gb7,gb8,wi,df,hot,fu];exact⟨by rw[Sl];rfl,Fv.mono rfl rfl⟩
  have:i=ls.length:=by omega
  subst this
  have hol:(C9 ls).length=ls.length:=by unfold C9;simp
  rw[←hol,dt]at acc;simp only[go_sem,aa,reduceCtorEq,eb,f2,b2,f7,b7,f55,f56,hlt];exact acc.mono rfl rfl
 clear eb f1 b1 f2 b2;rintro s2 ⟨eb,f2,b2,f7,b7,acc⟩
 have hol:(C9 ls).length=ls.length:=by unfold C9;simp
 have hbl:∀l∈C9 ls,l.length≤2^20:=fun l hl=>by
  unfold C9 at hl;obtain⟨l',hl',rfl⟩:=iw.1 hl;unfold Jy;rw[M0];have:=Y7 hl';exact ie (zg _ _) (by omega)
 obtain⟨_,_,k3,k4⟩:=S5 hcl (gr ls).length (ay _);have aE0:(Hh ls).length≤60:=ie k3 hel;have hsl:=(Ar (C9 ls)).length_eq;have hsc:=(Ar (Hh ls)).length_eq;have hEq:=ae3 A (v7 (C9 ls)) (v7 (Hh ls)) (by omega) (by omega) (fun l hl=>ie (hbl l ((Ar _).mem_iff.1 hl)) (by omega)) (fun l hl=>ie (k4 l ((Ar _).mem_iff.1 hl)) (by omega));rcases acc with ⟨h0,_⟩|⟨_,f9,b65⟩
 ·exact absurd (by simpa[C9]using h0) hl0
 simp only[go_sem]
 refine aky (fun s3=>s3.base=0∧s3.tmp 2= .ic 2 (s3.av 2) 0∧s3.da 2=some (.loc [.d .cq])∧s3.tmp 7= .ic 7 (s3.av 7) 0∧s3.da 7=some (.loc [.d (.ft 1 ((v7 (Hh ls)).map fun l=>[vz l]))])∧
  s3.tmp 72= .d (.bool (!decide (v7 (C9 ls)=v7 (Hh ls))))) ?_ ?_
 ·have hso:=fun m hb=>adq A L hρ (C9 ls) (by omega) hbl (m:=m) (id:=65) (av:=s2.av 65) hb;simp only[ag]at f9;simp only[agz,go_sem,aa,eb,f7,b7,f9]
  repeat' apply aLb
  all_goals
   refine jr (hso _ ?_ rfl 1000) ?_
   ·exact b65
   simp only[go_sem,aa,PS.j0,PS.mem,Uh,f7,b7];refine qw (ds:=[lj (v7 (C9 ls)),lj (v7 (Hh ls)),.nu A.iu []]) ?_ hEq rfl ?_
   ·simp only[go_sem,ag,hsl,lj]
   simp only[go_sem,aa,f2,b2,f7,b7]
 clear eb f2 b2 f7 b7 f9 b65;rintro s3 ⟨eb,f2,b2,f7,b7,f72⟩;cases hd:decide (v7 (C9 ls)=v7 (Hh ls))
 ·rw[hd]at f72 hpB;rw[hpB];simp only[go_sem,aa,eb,f2,b2,f72]
 rw[hd]at f72 hpB;rw[hpB];simp only[go_sem,aa,eb,f2,b2,f7,b7,f72]
theorem a4g(ls:List (List Sp)):(a08 ls).one=true:=by unfold a08;split<;>rfl
theorem abc(L:a71 P ρ)(hρ:ρ.f 6=A.ec):K1 A.toPr mf:=by
 intro ls h1 h2;have hr:=aq9 A L hρ ls h1 h2;refine du A.mo A.a2f (by simp) ?_;show ko P (Mj A.uq) (lg _ _) _;have eL:lj ls= .ft 1 (ls.map fun l=>[vz l]):=rfl;rw[eL]at hr⊢;have ho:=a4g ls;generalize a08 ls=X at hr ho;simp only[Mj,go_sem,aa];refine ff hr ?_;cases hp:mf ls
 ·simp only[go_sem,aa]
 cases X<;>first|(cases ho;done)|simp only[go_sem,aa]
end
end Go.PI
namespace Go.PI
def adf(p q:Sp):Int:=if(p.1≤0∧0<q.1)∧fb p q<0 then-1 else if(q.1≤0∧0<p.1)∧0<fb p q then 1 else 0
def ab9(p q:Sp):Int:=if(0<p.2↔0<q.2)then 0 else if(0<fb p q↔p.2<q.2)then(if p.2<q.2 then 1 else-1)else 0
def a7j(p:Sp):Int:=if 0<p.1∧0<p.2 then 1 else 0
def a7m(p:Sp):Int:=if p.2=0∧0<p.1 then 1 else 0
def Sg(x s:Int):Prop:=(s= -1∧x<0)∨(s=0∧x=0)∨(s=1∧0<x)
theorem Kb(x:Int):∃s,Sg x s:=by
 rcases aF7 x 0 with h|h|h
 ·exact⟨-1,.inl ⟨rfl,h⟩⟩
 ·exact⟨0,.inr (.inl ⟨rfl,h⟩)⟩
 exact⟨1,.inr (.inr ⟨rfl,h⟩)⟩
theorem Dy{x y s t:Int}(h1:Sg x s)(h2:Sg y t):Sg (x*y) (s*t):=by
 rcases h1 with ⟨rfl,h1⟩|⟨rfl,h1⟩|⟨rfl,h1⟩<;>rcases h2 with ⟨rfl,h2⟩|⟨rfl,h2⟩|⟨rfl,h2⟩
 ·exact .inr (.inr ⟨rfl,aag h1 h2⟩)
 ·exact .inr (.inl ⟨rfl,by rw[h2,aJr]⟩)
 ·exact .inl ⟨rfl,aah h1 h2⟩
 ·exact .inr (.inl ⟨rfl,by rw[h1,am5]⟩)
 ·exact .inr (.inl ⟨rfl,by rw[h1,am5]⟩)
 ·exact .inr (.inl ⟨rfl,by rw[h1,am5]⟩)
 ·exact .inl ⟨rfl,Int.mul_neg_of_pos_of_neg h1 h2⟩
 ·exact .inr (.inl ⟨rfl,by rw[h2,aJr]⟩)
 exact .inr (.inr ⟨rfl,Iy h1 h2⟩)
theorem Rg{x:Int}(h:Sg x 1):0<x:=by unfold Sg at h;omega
theorem Rh{x:Int}(h:Sg x (-1)):x<0:=by unfold Sg at h;omega
theorem Rf{x:Int}(h:Sg x 0):x=0:=by unfold Sg at h;omega
theorem awd(p q:Sp)(h:fb p q=0→0<p.1*q.1+p.2*q.2):ab9 p q-adf p q=a7j q-a7j p:=by
 obtain⟨a,b⟩:=p;obtain⟨c,d⟩:=q;unfold ab9 adf a7j;unfold fb at h⊢;simp only at h⊢;obtain⟨sa,ha⟩:=Kb a;obtain⟨sb,hb⟩:=Kb b;obtain⟨sc,hc⟩:=Kb c;obtain⟨sd,hd⟩:=Kb d;have m1:=Dy ha hd;have m2:=Dy hb hc;have m3:=Dy ha hc;have m4:=Dy hb hd
 generalize a*d=X at*
 generalize b*c=Y at*
 generalize a*c=Z at*
 generalize b*d=W at*
 rcases ha with ⟨rfl,ha⟩|⟨rfl,ha⟩|⟨rfl,ha⟩<;>rcases hb with ⟨rfl,hb⟩|⟨rfl,hb⟩|⟨rfl,hb⟩<;>rcases hc with ⟨rfl,hc⟩|⟨rfl,hc⟩|⟨rfl,hc⟩<;>rcases hd with ⟨rfl,hd⟩|⟨rfl,hd⟩|⟨rfl,hd⟩<;>
  (first|replace m1:=Rg m1|replace m1:=Rh m1|replace m1:=Rf m1)<;>(first|replace m2:=Rg m2|replace m2:=Rh m2|replace m2:=Rf m2)<;>(first|replace m3:=Rg m3|replace m3:=Rh m3|replace m3:=Rf m3)<;>(first|replace m4:=Rg m4|replace m4:=Rh m4|replace m4:=Rf m4)<;>
  (repeat' split)<;>omega
theorem ahv(p q:Sp)(h:fb p q=0→0<p.1*q.1+p.2*q.2): -(ab9 (p.2,p.1) (q.2,q.1))=adf p q:=by
 obtain⟨a,b⟩:=p;obtain⟨c,d⟩:=q;unfold ab9 adf;unfold fb at h⊢;simp only at h⊢;obtain⟨sa,ha⟩:=Kb a;obtain⟨sb,hb⟩:=Kb b;obtain⟨sc,hc⟩:=Kb c;obtain⟨sd,hd⟩:=Kb d;have m1:=Dy ha hd;have m2:=Dy hb hc;have m3:=Dy ha hc;have m4:=Dy hb hd
 generalize a*d=X at*
 generalize b*c=Y at*
 generalize a*c=Z at*
 generalize b*d=W at*
 rcases ha with ⟨rfl,ha⟩|⟨rfl,ha⟩|⟨rfl,ha⟩<;>rcases hb with ⟨rfl,hb⟩|⟨rfl,hb⟩|⟨rfl,hb⟩<;>rcases hc with ⟨rfl,hc⟩|⟨rfl,hc⟩|⟨rfl,hc⟩<;>rcases hd with ⟨rfl,hd⟩|⟨rfl,hd⟩|⟨rfl,hd⟩<;>
  (first|replace m1:=Rg m1|replace m1:=Rh m1|replace m1:=Rf m1)<;>(first|replace m2:=Rg m2|replace m2:=Rh m2|replace m2:=Rf m2)<;>(first|replace m3:=Rg m3|replace m3:=Rh m3|replace m3:=Rf m3)<;>(first|replace m4:=Rg m4|replace m4:=Rh m4|replace m4:=Rf m4)<;>
  (repeat' split)<;>omega
theorem ar7(p q:Sp)(h:fb p q=0→0<p.1*q.1+p.2*q.2):ab9 p q-adf (-p.2,p.1) (-q.2,q.1)=a7m p-a7m q:=by
 obtain⟨a,b⟩:=p;obtain⟨c,d⟩:=q;unfold ab9 adf a7m;unfold fb at h⊢;simp only at h⊢;obtain⟨sa,ha⟩:=Kb a;obtain⟨sb,hb⟩:=Kb b;obtain⟨sc,hc⟩:=Kb c;obtain⟨sd,hd⟩:=Kb d;have m1:=Dy ha hd;have m2:=Dy hb hc;have m3:=Dy ha hc;have m4:=Dy hb hd;have e1: -b*c= -(b*c):=aKs ..;have e2:a* -d= -(a*d):=aKt ..;rw[e1,e2];clear e1 e2
 generalize a*d=X at*
 generalize b*c=Y at*
 generalize a*c=Z at*
 generalize b*d=W at*
 rcases ha with ⟨rfl,ha⟩|⟨rfl,ha⟩|⟨rfl,ha⟩<;>rcases hb with ⟨rfl,hb⟩|⟨rfl,hb⟩|⟨rfl,hb⟩<;>rcases hc with ⟨rfl,hc⟩|⟨rfl,hc⟩|⟨rfl,hc⟩<;>rcases hd with ⟨rfl,hd⟩|⟨rfl,hd⟩|⟨rfl,hd⟩<;>
  (first|replace m1:=Rg m1|replace m1:=Rh m1|replace m1:=Rf m1)<;>(first|replace m2:=Rg m2|replace m2:=Rh m2|replace m2:=Rf m2)<;>(first|replace m3:=Rg m3|replace m3:=Rh m3|replace m3:=Rf m3)<;>(first|replace m4:=Rg m4|replace m4:=Rh m4|replace m4:=Rf m4)<;>
  (repeat' split)<;>omega
def rel(m p:Sp):Sp:=(2*p.1-m.1,2*p.2-m.2)
theorem Z5(m:Sp)(f:Ed):Iz m f=adf (rel m f.1) (rel m f.2):=by
 have e:j2 (dbl f.1) (dbl f.2) m=fb (rel m f.1) (rel m f.2):=by
  unfold j2 dbl fb rel;simp only[Int.sub_mul,Int.mul_sub];have h1:=zr (2*f.2.2) m.1;have h2:=zr (2*f.1.2) m.1;have h3:=zr (2*f.1.2) (2*f.2.1);have h4:=zr (2*f.1.2) (2*f.1.1);have h5:=zr (2*f.2.2) (2*f.1.1);have h6:=zr m.2 (2*f.2.1);have h7:=zr m.2 m.1;omega
 unfold Iz adf;rw[e];simp only[rel]
 congr 1
 ·rw[eq_iff_iff];constructor<;>rintro⟨⟨h1,h2⟩,h3⟩<;>exact⟨⟨by omega,by omega⟩,h3⟩
 congr 1
 rw[eq_iff_iff];constructor<;>rintro⟨⟨h1,h2⟩,h3⟩<;>exact⟨⟨by omega,by omega⟩,h3⟩
theorem Xc(sw:Bool)(m:Sp)(f:Ed):a1q sw m f=ab9 (seen sw m f.1) (seen sw m f.2):=by
 unfold a1q ab9;generalize seen sw m f.1=p;generalize seen sw m f.2=q;by_cases h1:0<p.2<;>by_cases h2:0<q.2<;>by_cases h3:0<fb p q<;>by_cases h4:p.2<q.2<;>simp[h1,h2,h3,h4]
theorem aav(m p:Sp):seen false m p=rel m p:=rfl
theorem aq4(m p:Sp):seen true m p=((rel m p).2,(rel m p).1):=rfl
theorem aeb(e:Ed)(p:Sp):rel (sn (Aq e)) (-p.2,p.1)=(-(rel (sn e) p).2,(rel (sn e) p).1):=by
 unfold rel sn Aq;refine Q8 ?_ ?_
 ·show 2* -p.2-(-e.1.2+ -e.2.2)= -(2*p.2-(e.1.2+e.2.2));omega
 rfl
theorem Z9(f g:Nat→Int):∀n,ot f n-ot g n=ot (fun k=>f k-g k) n:=by
 intro n
 induction n with
 |zero=>rfl
 |succ n ih=>simp only[ot];rw[←ih];omega
theorem a8u(f:Nat→Int):∀n,-(ot f n)=ot (fun k=> -(f k)) n:=by
 intro n
 induction n with
 |zero=>rfl
 |succ n ih=>simp only[ot];rw[←ih];omega
theorem Lk{f g:Nat→Int}:∀n,(∀k,k<n→f k=g k)→ot f n=ot g n:=by
 intro n
 induction n with
 |zero=>intro _;rfl
 |succ n ih=>intro h;simp only[ot];rw[ih fun k hk=>h k (by omega),h n (by omega)]
theorem amh(f:Nat→Int)(i:Nat):∀n,i<n→ot (fun k=>if k=i then 0 else f k) n=ot f n-f i:=by
 intro n
 induction n with
 |zero=>intro h;omega
 |succ n ih=>
  intro h;simp only[ot];by_cases e:n=i
  ·subst e;rw[bm rfl,Lk n (fun k hk=>al (by omega))];omega
  rw[al e,ih (by omega)];omega
def a7e(g:Ed→Int)(l:List Ed):Int:=(l.map g).sum
theorem a3o(g:Ed→Int)(l:List Ed):ot (fun k=>g (l.getD k e0)) l.length=a7e g l:=by
 have:∀n,n≤l.length→ot (fun k=>g (l.getD k e0)) n=a7e g (l.take n):=by
  intro n
  induction n with
  |zero=>intro _;rfl
  |succ n ih=>
   intro h;simp only[ot,ih (by omega)];unfold a7e;rw[fm,fu,aJ1];have:l[n]? =some l[n]:=ax (by omega);simp[cd,this]
 rw[this _ (ay _),dt]
theorem amf(g:Sp→Int)(l:List Sp):a7e (fun e=>g e.2-g e.1) (ja l)=0:=by
 have e1:a7e (fun e=>g e.2-g e.1) (ja l)=ot (fun k=>g (l.getD ((k+1)%l.length) (0,0))-g (l.getD k (0,0))) l.length:=by
  rw[←a3o,vn];refine Lk _ fun k hk=>?_
  have:(ja l).getD k e0=An l k:=by
   unfold ja;simp[cd,hk]
  rw[this];rfl
 rw[e1,←Z9]
 cases hl:l.length with
 |zero=>rfl
 |succ n=>
  have a1:∀m,m≤n→ot (fun k=>g (l.getD ((k+1)%(n+1)) (0,0))) m=ot (fun k=>g (l.getD k (0,0))) (m+1)-g (l.getD 0 (0,0)):=by
   intro m
   induction m with
   |zero=>intro _;simp only[ot];omega
   |succ m ih=>
    intro hm;simp only[ot]at ih⊢;rw[ih (by omega),aab (show m+1<n+1 by omega)];omega
  have a2:=a1 n (ay _);simp only[ot]at a2⊢;rw[a2,Nat.mod_self];omega
theorem adk(g:Ed→Int)(a b:List Ed):a7e g (a++b)=a7e g a+a7e g b:=by unfold a7e;rw[fu,aJ1]
theorem aFa(g:Sp→Int)(ls:List (List Sp)):a7e (fun e=>g e.2-g e.1) (gr ls)=0:=by
 induction ls with
 |nil=>rfl
 |cons l r ih=>
  have:gr (l::r)=ja l++gr r:=by unfold gr;rw[ad6]
  rw[this,adk,ih,amf];rfl
def als(es:List Ed)(i:Nat):Prop:=∀k,k<es.length→k≠i→fb (rel (sn (es.getD i e0)) (es.getD k e0).1) (rel (sn (es.getD i e0)) (es.getD k e0).2)=0→
 0<(rel (sn (es.getD i e0)) (es.getD k e0).1).1*(rel (sn (es.getD i e0)) (es.getD k e0).2).1+(rel (sn (es.getD i e0)) (es.getD k e0).1).2*(rel (sn (es.getD i e0)) (es.getD k e0).2).2
theorem Q3(es:List Ed)(k:Nat):(es.map Aq).getD k e0=Aq (es.getD k e0):=by
 simp only[cd,cw]
 cases es[k]? with
 |none=>simp[Aq,e0]
 |some e=>rfl
theorem au8{ls:List (List Sp)}(g:Sp→Int){i:Nat}(hi:i<(gr ls).length):
  ot (fun k=>if k=i then 0 else g ((gr ls).getD k e0).2-g ((gr ls).getD k e0).1) (gr ls).length=g ((gr ls).getD i e0).1-g ((gr ls).getD i e0).2:=by
 rw[amh (fun k=>g ((gr ls).getD k e0).2-g ((gr ls).getD k e0).1) i _ hi,a3o (fun e=>g e.2-g e.1),aFa];omega
theorem ao6{ls:List (List Sp)}{i:Nat}(hi:i<(gr ls).length)(hf:als (gr ls) i)(hne:((gr ls).getD i e0).1≠((gr ls).getD i e0).2):Y9 (gr ls) i=Vt (gr ls) i:=by
 have hb:=fun g=>au8 (ls:=ls) g hi
 generalize gr ls=es at*
 have hw:∀sw k,k<es.length→(if k=i then(0:Int)else a1q sw (sn (es.getD i e0)) (es.getD k e0))=if k=i then 0 else ab9 (seen sw (sn (es.getD i e0)) (es.getD k e0).1) (seen sw (sn (es.getD i e0)) (es.getD k e0).2):=fun sw k _=>by rw[Xc]
 unfold Y9 Vt;by_cases hv:(es.getD i e0).1.1=(es.getD i e0).2.1
 ·have hsw:swE (es.getD i e0)=false:=by
   unfold swE;simp only[beq_eq_false_iff_ne];intro h;exact hne (Q8 hv h)
  rw[bm hv,hsw];unfold Wj;rw[ag,Q3];have hg:=hb fun p=>a7m (rel (sn (es.getD i e0)) p)
  have a1w:ot (wAt es i) es.length-ot (W5 (es.map Aq) i) es.length=ot (fun k=> -(if k=i then 0 else a7m (rel (sn (es.getD i e0)) (es.getD k e0).2)-a7m (rel (sn (es.getD i e0)) (es.getD k e0).1))) es.length:=by
   rw[Z9];refine Lk _ fun k hk=>?_;unfold wAt W5;rw[hsw,Q3,Q3];by_cases e:k=i
   ·simp only[e,dj];rfl
   simp only[al e];rw[Xc,Z5,aav,aav];have:=ar7 _ _ (hf k hk e);have t1:rel (sn (Aq (es.getD i e0))) (Aq (es.getD k e0)).1=(-(rel (sn (es.getD i e0)) (es.getD k e0).1).2,(rel (sn (es.getD i e0)) (es.getD k e0).1).1):=aeb _ _;have t2:rel (sn (Aq (es.getD i e0))) (Aq (es.getD k e0)).2=(-(rel (sn (es.getD i e0)) (es.getD k e0).2).2,(rel (sn (es.getD i e0)) (es.getD k e0).2).1):=aeb _ _;rw[t1,t2];omega
  rw[←a8u,hg]at a1w
  have z1:a7m (rel (sn (es.getD i e0)) (es.getD i e0).1)=0:=by
   unfold a7m rel sn;rw[al];simp only;omega
  have z2:a7m (rel (sn (es.getD i e0)) (es.getD i e0).2)=0:=by
   unfold a7m rel sn;rw[al];simp only;omega
  rw[z1,z2]at a1w
  have aDp:(if(decide ((vw false (es.getD i e0).1).2<(vw false (es.getD i e0).2).2)== !false)=true then(1:Int)else 0)=if(Aq (es.getD i e0)).2.1<(Aq (es.getD i e0)).1.1 then 1 else 0:=by
   have:(Aq (es.getD i e0)).2.1<(Aq (es.getD i e0)).1.1↔(es.getD i e0).1.2<(es.getD i e0).2.2:=by
    show-(es.getD i e0).2.2< -(es.getD i e0).1.2↔_;omega
   simp only[vw,this];by_cases h:(es.getD i e0).1.2<(es.getD i e0).2.2<;>simp[]
  rw[aDp];simp only[fk,ee];omega
 rw[al hv];unfold Wj;cases hsw:swE (es.getD i e0)
 ·have hh:(es.getD i e0).1.2≠(es.getD i e0).2.2:=by
   unfold swE at hsw;simpa using hsw
  have hg:=hb fun p=>a7j (rel (sn (es.getD i e0)) p)
  have a1w:ot (wAt es i) es.length-ot (W5 es i) es.length=ot (fun k=>(if k=i then 0 else a7j (rel (sn (es.getD i e0)) (es.getD k e0).2)-a7j (rel (sn (es.getD i e0)) (es.getD k e0).1))) es.length:=by
   rw[Z9];refine Lk _ fun k hk=>?_;unfold wAt W5;rw[hsw];by_cases e:k=i
   ·simp only[e,dj];rfl
   simp only[al e];rw[Xc,Z5,aav,aav];exact awd _ _ (hf k hk e)
  rw[hg]at a1w;simp only[fk,ee,vw]
  have q1:a7j (rel (sn (es.getD i e0)) (es.getD i e0).1)=if(es.getD i e0).2.1<(es.getD i e0).1.1∧(es.getD i e0).2.2<(es.getD i e0).1.2 then 1 else 0:=by
   unfold a7j rel sn;simp only
   congr 1
   rw[eq_iff_iff];omega
  have q2:a7j (rel (sn (es.getD i e0)) (es.getD i e0).2)=if(es.getD i e0).1.1<(es.getD i e0).2.1∧(es.getD i e0).1.2<(es.getD i e0).2.2 then 1 else 0:=by
   unfold a7j rel sn;simp only
   congr 1
   rw[eq_iff_iff];omega
  rw[q1,q2]at a1w;by_cases h1:(es.getD i e0).1.1<(es.getD i e0).2.1<;>by_cases h2:(es.getD i e0).1.2<(es.getD i e0).2.2
  ·have g1:¬(es.getD i e0).2.1<(es.getD i e0).1.1:=by omega
   simp only[h1,h2,g1,decide_true,and_self,false_and,dj,ee,Li,gq]at a1w⊢;omega
  ·have g1:¬(es.getD i e0).2.1<(es.getD i e0).1.1:=by omega
   simp only[h1,h2,g1,decide_false,and_false,false_and,ee,Li]at a1w⊢;simp;omega
  ·have g1:(es.getD i e0).2.1<(es.getD i e0).1.1:=by omega
   have g2:¬(es.getD i e0).2.2<(es.getD i e0).1.2:=by omega
   simp only[h1,h2,g1,g2,decide_true,and_true,and_false,dj,ee,Li,gq]at a1w⊢;omega
  have g1:(es.getD i e0).2.1<(es.getD i e0).1.1:=by omega
  have g2:(es.getD i e0).2.2<(es.getD i e0).1.2:=by omega
  simp only[h1,h2,g1,g2,decide_false,and_self,dj,ee,Li]at a1w⊢;simp;omega
 have a1w: -(ot (wAt es i) es.length)=ot (W5 es i) es.length:=by
  rw[a8u];refine Lk _ fun k hk=>?_;unfold wAt W5;rw[hsw];by_cases e:k=i
  ·simp only[e,dj];rfl
  simp only[al e];rw[Xc,Z5,aq4,aq4];exact ahv _ _ (hf k hk e)
 simp only[dj,a1w,vw,aF3];by_cases h1:(es.getD i e0).1.1<(es.getD i e0).2.1
 ·have g1:¬(es.getD i e0).2.1<(es.getD i e0).1.1:=by omega
  rw[decide_eq_true h1,al (show¬(((true:Bool)==false)=true)by decide),al g1]
 have g1:(es.getD i e0).2.1<(es.getD i e0).1.1:=by omega
 rw[decide_eq_false h1,bm (show(((false:Bool)==false)=true)by decide),bm g1]
theorem awk(u v:Sp)(h:fb u v=0)(hd:u.1*v.1+u.2*v.2<0):((u.1≤0∧0≤v.1)∨(v.1≤0∧0≤u.1))∧((u.2≤0∧0≤v.2)∨(v.2≤0∧0≤u.2)):=by
 obtain⟨a,b⟩:=u;obtain⟨c,d⟩:=v;unfold fb at h;simp only at h hd⊢;obtain⟨sa,ha⟩:=Kb a;obtain⟨sb,hb⟩:=Kb b;obtain⟨sc,hc⟩:=Kb c;obtain⟨sd,hd'⟩:=Kb d;have m1:=Dy ha hd';have m2:=Dy hb hc;have m3:=Dy ha hc;have m4:=Dy hb hd'
 generalize a*d=X at*
 generalize b*c=Y at*
 generalize a*c=Z at*
 generalize b*d=W at*
 rcases ha with ⟨rfl,ha⟩|⟨rfl,ha⟩|⟨rfl,ha⟩<;>rcases hb with ⟨rfl,hb⟩|⟨rfl,hb⟩|⟨rfl,hb⟩<;>rcases hc with ⟨rfl,hc⟩|⟨rfl,hc⟩|⟨rfl,hc⟩<;>rcases hd' with ⟨rfl,hd'⟩|⟨rfl,hd'⟩|⟨rfl,hd'⟩<;>
  (first|replace m1:=Rg m1|replace m1:=Rh m1|replace m1:=Rf m1)<;>(first|replace m2:=Rg m2|replace m2:=Rh m2|replace m2:=Rf m2)<;>(first|replace m3:=Rg m3|replace m3:=Rh m3|replace m3:=Rf m3)<;>(first|replace m4:=Rg m4|replace m4:=Rh m4|replace m4:=Rf m4)<;>
  omega
theorem ap2(a b p:Sp):j2 a b p=fb (kz a p) (kz b p):=by
 unfold j2 fb kz;simp only[Int.sub_mul,Int.mul_sub];have h1:=zr b.1 p.2;have h2:=zr b.2 p.1;have h3:=zr a.1 p.2;have h4:=zr a.2 p.1;have h5:=zr a.1 b.2;have h6:=zr a.2 b.1;have h7:=zr p.1 p.2;have h8:=zr a.1 a.2;omega
theorem aBi{e:Ed}{p:Sp}(h:afh e p=true):onB e p=true∧p≠e.1∧p≠e.2:=by
 unfold afh at h;simp only[cj,beq_iff_eq,decide_eq_true_eq]at h;obtain⟨h1,h2⟩:=h;have hb:=awk (kz e.1 p) (kz e.2 p) h1 h2;refine⟨?_,?_,?_⟩
 ·unfold onB;simp only[cj,beq_iff_eq,decide_eq_true_eq];refine⟨by rw[ap2];exact h1,?_⟩;simp only[kz]at hb;unfold mn mx;refine⟨?_,?_,?_,?_⟩<;>split<;>omega
 ·rintro rfl;simp at h2
 rintro rfl;simp at h2
theorem B4{es:List Ed}(h:G6 es=true){i:Nat}(hi:i<es.length):(es.getD i e0).1≠(es.getD i e0).2∧∀k,k<es.length→Zs (es.getD i e0) (es.getD k e0)=false∧Wz i k (es.getD i e0) (es.getD k e0)=false:=by
 unfold G6 at h;have h1:=cz.1 h i (ep.2 hi);unfold U3 at h1;simp only[cj,pz]at h1;refine⟨fun q=>?_,fun k hk=>?_⟩
 ·have:=h1.1;rw[yg.2 q]at this;cases this
 have:=cz.1 h1.2 k (ep.2 hk);simpa using this
theorem aml{es:List Ed}(h:G6 es=true):Re es=true:=by
 unfold Re;rw[cj];refine⟨cz.2 fun i hi=>?_,cz.2 fun i hi=>cz.2 fun k hk=>?_⟩
 ·have hi:=ep.1 hi;obtain⟨h1,h2⟩:=B4 h hi
  have get:∀f,f∈es.take i→∃k,k<i∧k<es.length∧es.getD k e0=f:=fun f hf=>by
   obtain⟨k,hk,rfl⟩:=i6.1 hf;simp only[dw]at hk;refine⟨k,by omega,by omega,?_⟩;simp[cd,show k<es.length by omega]
  unfold a3t;simp only[cj,pz];refine⟨?_,?_,?_⟩
  ·cases hs:tf (es.getD i e0).1 (es.getD i e0).2
   ·rfl
   exact absurd (yg.1 hs) h1
  ·cases hm:Mv (es.take i) (es.getD i e0)
   ·rfl
   obtain⟨k,hk,hkl,he⟩:=get _ (Lt.1 hm);have:=(h2 k hkl).2;rw[he]at this;unfold Wz at this;rw[decide_eq_true (show i≠k by omega)]at this;simp[a2r]at this
  cases hm:Mv (es.take i) (ab5 (es.getD i e0))
  ·rfl
  obtain⟨k,hk,hkl,he⟩:=get _ (Lt.1 hm);have:=(h2 k hkl).2;rw[he]at this;unfold Wz at this;rw[decide_eq_true (show i≠k by omega)]at this;simp[ab5,tf]at this
 have hi:=ep.1 hi;have hk:=ep.1 hk;obtain⟨h1,h2⟩:=B4 h hi;have h3:=(h2 k hk).1;unfold Zs at h3;rw[Rc]at h3;unfold a0m;simp only[cj,pz];refine⟨?_,?_⟩
 ·cases hh:afh (es.getD i e0) (es.getD k e0).1
  ·rfl
  obtain⟨k1,k2,k3⟩:=aBi hh;have:=h3.1;rw[k1]at this
  have n1:tf (es.getD k e0).1 (es.getD i e0).1=false:=by
   cases q:tf (es.getD k e0).1 (es.getD i e0).1
   ·rfl
   exact absurd (yg.1 q) k2
  have n2:tf (es.getD k e0).1 (es.getD i e0).2=false:=by
   cases q:tf (es.getD k e0).1 (es.getD i e0).2
   ·rfl
   exact absurd (yg.1 q) k3
  rw[n1,n2]at this;cases this
 rw[h3.2,qo]
theorem as3(a b A:Sp):2*j2 a b A=fb (kz b a) (rel (a.1+b.1,a.2+b.2) A):=by
 unfold j2 fb kz rel;simp only
 grind
theorem aD3(a b A B:Sp):4*j2 A B a=fb (kz b a) (rel (a.1+b.1,a.2+b.2) B)-fb (kz b a) (rel (a.1+b.1,a.2+b.2) A)+fb (rel (a.1+b.1,a.2+b.2) A) (rel (a.1+b.1,a.2+b.2) B):=by
 unfold j2 fb kz rel;simp only
 grind
theorem aD2(a b A B:Sp):4*j2 A B b=fb (kz b a) (rel (a.1+b.1,a.2+b.2) A)-fb (kz b a) (rel (a.1+b.1,a.2+b.2) B)+fb (rel (a.1+b.1,a.2+b.2) A) (rel (a.1+b.1,a.2+b.2) B):=by
 unfold j2 fb kz rel;simp only
 grind
theorem plu(d p q:Sp)(h:fb p q=0):fb d p*q.1=fb d q*p.1∧fb d p*q.2=fb d q*p.2:=by
 unfold fb at*
 constructor<;>grind
theorem akm{X Y p q:Int}(hX:0<X)(hY:0<Y)(h:X*q=Y*p):(p=0∧q=0)∨0<p*q:=by
 obtain⟨s,hs⟩:=Kb p;obtain⟨t,ht⟩:=Kb q;have m1:=Dy (x:=X) (s:=1) (.inr (.inr ⟨rfl,hX⟩)) ht;have m2:=Dy (x:=Y) (s:=1) (.inr (.inr ⟨rfl,hY⟩)) hs;have m3:=Dy hs ht;rw[h]at m1
 generalize Y*p=Z at*
 generalize p*q=W at*
 rcases hs with ⟨rfl,hs⟩|⟨rfl,hs⟩|⟨rfl,hs⟩<;>rcases ht with ⟨rfl,ht⟩|⟨rfl,ht⟩|⟨rfl,ht⟩<;>
  (first|replace m1:=Rg m1|replace m1:=Rh m1|replace m1:=Rf m1)<;>(first|replace m2:=Rg m2|replace m2:=Rh m2|replace m2:=Rf m2)<;>(first|replace m3:=Rg m3|replace m3:=Rh m3|replace m3:=Rf m3)<;>omega
theorem aes{d p q:Sp}(h:fb p q=0)(hd:p.1*q.1+p.2*q.2≤0)(h1:0<fb d p)(h2:0<fb d q):False:=by
 obtain⟨e1,e2⟩:=plu d p q h;have k1:=akm h1 h2 e1;have k2:=akm h1 h2 e2
 have z:p.1=0∧p.2=0:=by
  rcases k1 with ⟨a,b⟩|a<;>rcases k2 with ⟨c,e⟩|c
  ·exact⟨a,c⟩
  ·rw[a,am5]at hd;omega
  ·rw[c,am5]at hd;omega
  omega
 unfold fb at h1;rw[z.1,z.2]at h1;simp at h1
theorem a6f(d p:Sp):fb (-d.1,-d.2) p= -(fb d p):=by
 unfold fb;simp only
 grind
theorem anz{a b A B:Sp}(h:fb (rel (a.1+b.1,a.2+b.2) A) (rel (a.1+b.1,a.2+b.2) B)=0)
  (hd:(rel (a.1+b.1,a.2+b.2) A).1*(rel (a.1+b.1,a.2+b.2) B).1+(rel (a.1+b.1,a.2+b.2) A).2*(rel (a.1+b.1,a.2+b.2) B).2≤0)(hx:Mz (a,b) (A,B)=false):
  j2 a b A=0∨j2 a b B=0:=by
 have e1:=as3 a b A;have e2:=as3 a b B;have e3:=aD3 a b A B;have e4:=aD2 a b A B;rw[h]at e3 e4;by_cases z1:j2 a b A=0
 ·exact .inl z1
 by_cases z2:j2 a b B=0
 ·exact .inr z2
 exfalso;have n1:¬(0<j2 a b A∧0<j2 a b B):=fun⟨q1,q2⟩=>aes (d:=kz b a) h hd (by omega) (by omega);have n2:¬(j2 a b A<0∧j2 a b B<0):=fun⟨q1,q2⟩=>aes (d:=(-(kz b a).1,-(kz b a).2)) h hd (by rw[a6f];omega) (by rw[a6f];omega);unfold Mz sgn at hx;simp only at hx;rcases am6 z1 with s1|s1<;>rcases am6 z2 with s2|s2
 ·exact n2 ⟨s1,s2⟩
 ·have c1:j2 A B a>0:=by omega
  have c2:j2 A B b<0:=by omega
  rw[bm s1,al (show¬j2 a b B<0 by omega),bm s2,al (show¬j2 A B a<0 by omega),bm c1,bm c2]at hx;simp at hx
 ·have c1:j2 A B a<0:=by omega
  have c2:j2 A B b>0:=by omega
  rw[al (show¬j2 a b A<0 by omega),bm s1,bm s2,bm c1,al (show¬j2 A B b<0 by omega),bm c2]at hx;simp at hx
 exact n1 ⟨s1,s2⟩
theorem as0{a b A:Sp}(hne:a≠b)(h1:2*A.1=a.1+b.1)(h2:2*A.2=a.2+b.2)(h0:j2 a b A=0):onB (a,b) A=true∧A≠a∧A≠b:=by
 refine⟨?_,?_,?_⟩
 ·unfold onB mn mx;simp only[cj,beq_iff_eq,decide_eq_true_eq];refine⟨h0,?_,?_,?_,?_⟩<;>split<;>omega
 ·rintro rfl;exact hne (Q8 (by omega) (by omega))
 rintro rfl;exact hne (Q8 (by omega) (by omega))
theorem al8{a b A B:Sp}(h:fb (rel (a.1+b.1,a.2+b.2) A) (rel (a.1+b.1,a.2+b.2) B)=0)(h1:j2 a b A=0)(h2:j2 a b B≠0):2*A.1=a.1+b.1∧2*A.2=a.2+b.2:=by
 have e1:=as3 a b A;have e2:=as3 a b B;obtain⟨k1,k2⟩:=plu (kz b a) _ _ h;rw[←e1,h1]at k1 k2;rw[←e2]at k1 k2;simp only[aJr,am5]at k1 k2
 have n:2*j2 a b B≠0:=by omega
 have z1:=(C4.1 k1.symm).resolve_left n;have z2:=(C4.1 k2.symm).resolve_left n;simp only[rel]at z1 z2;omega
theorem along{a b A:Sp}(h:j2 a b A=0):fb (kz b a) (rel (a.1+b.1,a.2+b.2) A)=0:=by
 rw[←as3,h];rfl
theorem aln{d1 d2 x1 x2:Int}(h:d1*x2=d2*x1)(a:0≤x1)(b:x1≤d1)(hd:0<d1)(g:0<d2):0≤x2∧x2≤d2:=by
 constructor
 ·have h1:0≤d1*x2:=by rw[h];exact ad7 (by omega) a
  exact av8 h1 hd
 have h2:d1*x2≤d1*d2:=by rw[h,zr d1 d2];exact Z4 b (by omega)
 exact Int.le_of_mul_le_mul_left h2 hd
theorem ayn{d1 d2 x1 x2:Int}(h:d1*x2=d2*x1)(hd:d1≠0)(h1:(0≤x1∧x1≤d1)∨(d1≤x1∧x1≤0)):(0≤x2∧x2≤d2)∨(d2≤x2∧x2≤0):=by
 have main:∀(e1 y1:Int),0<e1→0≤y1→y1≤e1→e1*x2=d2*y1→(0≤x2∧x2≤d2)∨(d2≤x2∧x2≤0):=by
  intro e1 y1 p1 p2 p3 he;rcases aF7 d2 0 with g|g|g
  ·have:=aln (d1:=e1) (d2:= -d2) (x1:=y1) (x2:= -x2) (by rw[aKt,aKs,he]) p2 p3 p1 (by omega);omega
  ·subst g;rw[am5]at he;have:=(C4.1 he).resolve_left (by omega);omega
  exact .inl (aln he p2 p3 p1 g)
 rcases am6 hd with g|g
 ·exact main (-d1) (-x1) (by omega) (by omega) (by omega) (by rw[aKs,aKt,h])
 exact main d1 x1 g (by omega) (by omega) h
theorem aAh{a b x:Sp}(h:j2 a b x=0)(h1:(a.1≤x.1∧x.1≤b.1)∨(b.1≤x.1∧x.1≤a.1))(h2:(a.2≤x.2∧x.2≤b.2)∨(b.2≤x.2∧x.2≤a.2)):onB (a,b) x=true:=by
 unfold onB mn mx;simp only[cj,beq_iff_eq,decide_eq_true_eq];refine⟨h,?_,?_,?_,?_⟩<;>split<;>omega
theorem abh{a b x:Sp}(h:onB ((a.2,a.1),(b.2,b.1)) (x.2,x.1)=true):onB (a,b) x=true:=by
 unfold onB at*
 simp only[cj,beq_iff_eq,decide_eq_true_eq]at*
 obtain⟨h0,h1,h2,h3,h4⟩:=h;refine⟨?_,h3,h4,h1,h2⟩
 have:j2 (a.2,a.1) (b.2,b.1) (x.2,x.1)= -(j2 a b x):=by
  unfold j2;simp only
  grind
 omega
theorem abw{a b x:Sp}(h:j2 a b x=0)(hn:a.1≠b.1)(h1:(a.1<x.1∧x.1<b.1)∨(b.1<x.1∧x.1<a.1)):onB (a,b) x=true∧x≠a∧x≠b:=by
 have e:(b.1-a.1)*(x.2-a.2)=(b.2-a.2)*(x.1-a.1):=by
  unfold j2 at h
  grind
 have:=ayn e (by omega) (by omega);refine⟨aAh h (by omega) (by omega),?_,?_⟩
 ·rintro rfl;omega
 rintro rfl;omega
theorem a4r{a b A B:Sp}(hn:a.1≠b.1)(h1:j2 a b A=0)(h2:j2 a b B=0)
  (hd:(rel (a.1+b.1,a.2+b.2) A).1*(rel (a.1+b.1,a.2+b.2) B).1+(rel (a.1+b.1,a.2+b.2) A).2*(rel (a.1+b.1,a.2+b.2) B).2≤0):
  (onB (a,b) A=true∧A≠a∧A≠b)∨(onB (a,b) B=true∧B≠a∧B≠b)∨(onB (A,B) a=true∧a≠A∧a≠B)∨(onB (A,B) b=true∧b≠A∧b≠B)∨(A=a∧B=b)∨(A=b∧B=a):=by
 have k1:=along h1;have k2:=along h2;have m3:=aD3 a b A B;have m4:=aD2 a b A B;rw[k1,k2]at m3 m4
 have hc:fb (rel (a.1+b.1,a.2+b.2) A) (rel (a.1+b.1,a.2+b.2) B)=0:=by
  have:(b.1-a.1)*fb (rel (a.1+b.1,a.2+b.2) A) (rel (a.1+b.1,a.2+b.2) B)=0:=by
   unfold fb kz at*
   simp only at*
   grind
  exact(C4.1 this).resolve_left (by omega)
 rw[hc]at m3 m4
 have h3:j2 A B a=0:=by omega
 have h4:j2 A B b=0:=by omega
 have hp:(rel (a.1+b.1,a.2+b.2) A).1*(rel (a.1+b.1,a.2+b.2) B).1≤0:=by
  have e:(b.1-a.1)*(b.1-a.1)*((rel (a.1+b.1,a.2+b.2) A).1*(rel (a.1+b.1,a.2+b.2) B).1+(rel (a.1+b.1,a.2+b.2) A).2*(rel (a.1+b.1,a.2+b.2) B).2)=((b.1-a.1)*(b.1-a.1)+(b.2-a.2)*(b.2-a.2))*((rel (a.1+b.1,a.2+b.2) A).1*(rel (a.1+b.1,a.2+b.2) B).1):=by
   unfold fb kz at*
   simp only at*
   grind
  have p1:0<(b.1-a.1)*(b.1-a.1):=by
   rcases am6 hn with g|g
   ·exact Iy (by omega) (by omega)
   exact aag (by omega) (by omega)
  have p2:0≤(b.2-a.2)*(b.2-a.2):=by
   rcases aJ6 a.2 b.2 with g|g
   ·exact ad7 (by omega) (by omega)
   exact D3 (by omega) (by omega)
  have p3:=Iu (aIa p1) hd;rw[e]at p3;rcases P2 0 ((rel (a.1+b.1,a.2+b.2) A).1*(rel (a.1+b.1,a.2+b.2) B).1)with g|g
  ·have:=Iy (show 0<(b.1-a.1)*(b.1-a.1)+(b.2-a.2)*(b.2-a.2)by omega) g;omega
  exact g
 have hs:((rel (a.1+b.1,a.2+b.2) A).1≤0∧0≤(rel (a.1+b.1,a.2+b.2) B).1)∨((rel (a.1+b.1,a.2+b.2) B).1≤0∧0≤(rel (a.1+b.1,a.2+b.2) A).1):=by
  generalize(rel (a.1+b.1,a.2+b.2) A).1=p at*
  generalize(rel (a.1+b.1,a.2+b.2) B).1=q at*
  rcases P2 0 p with g|g<;>rcases P2 0 q with g2|g2
  ·have:=Iy g g2;omega
  ·omega
  ·omega
  rcases P2 p 0 with g3|g3<;>rcases P2 q 0 with g4|g4
  ·have:=aag g3 g4;omega
  all_goals omega
 simp only[rel]at hs
 have eqs:∀{x:Sp},j2 a b x=0→x.1=a.1→x=a:=fun{x} h e=>by
  have:(b.1-a.1)*(x.2-a.2)=0:=by
   unfold j2 at h
   grind
  have:=(C4.1 this).resolve_left (by omega);exact Q8 e (by omega)
 have aEc:∀{x:Sp},j2 a b x=0→x.1=b.1→x=b:=fun{x} h e=>by
  have:(b.1-a.1)*(x.2-b.2)=0:=by
   unfold j2 at h
   grind
  have:=(C4.1 this).resolve_left (by omega);exact Q8 e (by omega)
 by_cases c1:(a.1<A.1∧A.1<b.1)∨(b.1<A.1∧A.1<a.1)
 ·exact .inl (abw h1 hn c1)
 by_cases c2:(a.1<B.1∧B.1<b.1)∨(b.1<B.1∧B.1<a.1)
 ·exact .inr (.inl (abw h2 hn c2))
 by_cases c3:(A.1<a.1∧a.1<B.1)∨(B.1<a.1∧a.1<A.1)
 ·exact .inr (.inr (.inl (abw h3 (by omega) c3)))
 by_cases c4:(A.1<b.1∧b.1<B.1)∨(B.1<b.1∧b.1<A.1)
 ·exact .inr (.inr (.inr (.inl (abw h4 (by omega) c4))))
 have:(A.1=a.1∧B.1=b.1)∨(A.1=b.1∧B.1=a.1):=by omega
 rcases this with ⟨u,v⟩|⟨u,v⟩
 ·exact .inr (.inr (.inr (.inr (.inl ⟨eqs h1 u,aEc h2 v⟩))))
 exact .inr (.inr (.inr (.inr (.inr ⟨aEc h1 u,eqs h2 v⟩))))
theorem ao4{a b A B:Sp}(hne:a≠b)(h1:j2 a b A=0)(h2:j2 a b B=0)
  (hd:(rel (a.1+b.1,a.2+b.2) A).1*(rel (a.1+b.1,a.2+b.2) B).1+(rel (a.1+b.1,a.2+b.2) A).2*(rel (a.1+b.1,a.2+b.2) B).2≤0):
  (onB (a,b) A=true∧A≠a∧A≠b)∨(onB (a,b) B=true∧B≠a∧B≠b)∨(onB (A,B) a=true∧a≠A∧a≠B)∨(onB (A,B) b=true∧b≠A∧b≠B)∨(A=a∧B=b)∨(A=b∧B=a):=by
 by_cases hn:a.1=b.1
 ·have hn2:a.2≠b.2:=fun h=>hne (Q8 hn h)
  have sw3:∀x y z:Sp,j2 (x.2,x.1) (y.2,y.1) (z.2,z.1)= -(j2 x y z):=fun x y z=>by
   unfold j2;simp only
   grind
  have ne:∀{x y:Sp},((x.2,x.1):Sp)≠(y.2,y.1)→x≠y:=fun{x y} h e=>h (by rw[e])
  have eq:∀{x y:Sp},((x.2,x.1):Sp)=(y.2,y.1)→x=y:=fun{x y} h=>by
   have h1:=congrArg Prod.fst h;have h2:=congrArg Prod.snd h;exact Q8 h2 h1
  have:=a4r (a:=(a.2,a.1)) (b:=(b.2,b.1)) (A:=(A.2,A.1)) (B:=(B.2,B.1)) hn2 (by rw[sw3];omega) (by rw[sw3];omega) (by
   show(rel (a.1+b.1,a.2+b.2) A).2*(rel (a.1+b.1,a.2+b.2) B).2+(rel (a.1+b.1,a.2+b.2) A).1*(rel (a.1+b.1,a.2+b.2) B).1≤0
   omega)
  rcases this with ⟨p,q,r⟩|⟨p,q,r⟩|⟨p,q,r⟩|⟨p,q,r⟩|⟨p,q⟩|⟨p,q⟩
  ·exact .inl ⟨abh p,ne q,ne r⟩
  ·exact .inr (.inl ⟨abh p,ne q,ne r⟩)
  ·exact .inr (.inr (.inl ⟨abh p,ne q,ne r⟩))
  ·exact .inr (.inr (.inr (.inl ⟨abh p,ne q,ne r⟩)))
  ·exact .inr (.inr (.inr (.inr (.inl ⟨eq p,eq q⟩))))
  exact .inr (.inr (.inr (.inr (.inr ⟨eq p,eq q⟩))))
 exact a4r hn h1 h2 hd
theorem Uo{e f:Ed}(h:Zs e f=false):Mz e f=false∧¬(onB e f.1=true∧f.1≠e.1∧f.1≠e.2):=by
 unfold Zs at h;rw[Rc]at h;refine⟨h.2,fun⟨a,b,c⟩=>?_⟩;have:=h.1;rw[a]at this
 have n1:tf f.1 e.1=false:=by
  cases q:tf f.1 e.1
  ·rfl
  exact absurd (yg.1 q) b
 have n2:tf f.1 e.2=false:=by
  cases q:tf f.1 e.2
  ·rfl
  exact absurd (yg.1 q) c
 rw[n1,n2]at this;cases this
theorem abj{i k:Nat}{e f:Ed}(h:Wz i k e f=false)(hn:i≠k):e≠f∧¬(e.1=f.2∧e.2=f.1):=by
 unfold Wz at h;rw[decide_eq_true hn,uh,Rc]at h;refine⟨?_,fun⟨a,b⟩=>?_⟩
 ·rintro rfl;have:=h.1;simp[a2r]at this
 have:=h.2;rw[yg.2 a,yg.2 b]at this;cases this
theorem afl{es:List Ed}{k:Nat}(h:k<es.length):es.getD k e0∈es:=by
 simp only[cd,ax h,j6];exact cy h
theorem Ha{es:List Ed}{e:Ed}(h:e∈es):∃k,k<es.length∧es.getD k e0=e:=by
 obtain⟨k,hk,rfl⟩:=i6.1 h;exact⟨k,hk,by simp[cd,hk]⟩
theorem as1{es:List Ed}(h:G6 es=true)(hc:K4 es){i:Nat}(hi:i<es.length):als es i:=by
 intro k hk hne h0;rcases P2 0 ((rel (sn (es.getD i e0)) (es.getD k e0).1).1*(rel (sn (es.getD i e0)) (es.getD k e0).2).1+(rel (sn (es.getD i e0)) (es.getD k e0).1).2*(rel (sn (es.getD i e0)) (es.getD k e0).2).2)with g|g
 ·exact g
 exfalso;obtain⟨n1,hh⟩:=B4 h hi;obtain⟨n2,hh2⟩:=B4 h hk;obtain⟨x1,y1⟩:=Uo (hh k hk).1;obtain⟨d1,d2⟩:=abj (hh k hk).2 (by omega);obtain⟨x2,y2⟩:=Uo (hh2 i hi).1
 have z1:¬(onB (es.getD i e0) (es.getD k e0).2=true∧(es.getD k e0).2≠(es.getD i e0).1∧(es.getD k e0).2≠(es.getD i e0).2):=by
  obtain⟨f,hf,he⟩:=hc.1 _ (afl hk);obtain⟨m,hm,rfl⟩:=Ha hf;rw[←he];exact(Uo (hh m hm).1).2
 have z2:¬(onB (es.getD k e0) (es.getD i e0).2=true∧(es.getD i e0).2≠(es.getD k e0).1∧(es.getD i e0).2≠(es.getD k e0).2):=by
  obtain⟨f,hf,he⟩:=hc.1 _ (afl hi);obtain⟨m,hm,rfl⟩:=Ha hf;rw[←he];exact(Uo (hh2 m hm).1).2
 generalize es.getD i e0=e at*
 generalize es.getD k e0=f at*
 obtain⟨a,b⟩:=e;obtain⟨A,B⟩:=f;simp only[sn]at h0 g
 simp only at*
 have s:=anz h0 g x1;by_cases c1:j2 a b A=0
 ·by_cases c2:j2 a b B=0
  ·rcases ao4 n1 c1 c2 g with q|q|q|q|⟨q,r⟩|⟨q,r⟩
   ·exact y1 q
   ·exact z1 q
   ·exact y2 q
   ·exact z2 q
   ·exact d1 (by rw[q,r])
   exact d2 ⟨r.symm,q.symm⟩
  obtain⟨u,v⟩:=al8 h0 c1 c2;exact y1 (as0 n1 u v c1)
 have c2:=s.resolve_left c1
 have h0':fb (rel (a.1+b.1,a.2+b.2) B) (rel (a.1+b.1,a.2+b.2) A)=0:=by
  unfold fb at h0⊢
  grind
 obtain⟨u,v⟩:=al8 h0' c2 c1;exact z1 (as0 n1 u v c2)
theorem ap9{ls:List (List Sp)}(h:G6 (gr ls)=true)(hc:K4 (gr ls))(hl:Wi (gr ls)=true):S8 (gr ls)=true:=by
 unfold S8;refine cz.2 fun i hi=>?_;have Ds:=ep.1 hi;have:=cz.1 hl i hi;rw[ao6 Ds (as1 h hc Ds) (B4 h Ds).1];exact this
def Si(v:Sp):Prop:=0<v.2∨(v.2=0∧0<v.1)
def Dt(u v:Sp):Int:=u.1*v.1+u.2*v.2
def sV(s:Int)(v:Sp):Sp:=(s*v.1,s*v.2)
theorem Wq{v:Sp}(h:v≠(0,0)):∃s w,v=sV s w∧Si w∧((s=1∧Qu v=0)∨(s= -1∧Qu v=1)):=by
 by_cases h1:0<v.2∨(v.2=0∧0<v.1)
 ·refine⟨1,v,?_,h1,.inl ⟨rfl,?_⟩⟩
  ·unfold sV;rw[Int.one_mul,Int.one_mul]
  unfold Qu;rw[bm];simpa using h1
 refine⟨-1,sV (-1) v,?_,?_,.inr ⟨rfl,?_⟩⟩
 ·unfold sV;refine Q8 ?_ ?_<;>simp only<;>omega
 ·unfold Si sV;simp only;have:¬(v.1=0∧v.2=0):=fun⟨a,b⟩=>h (Q8 a b);omega
 unfold Qu;rw[al];simpa using h1
theorem U8(s t:Int)(u v:Sp):fb (sV s u) (sV t v)=s*t*fb u v:=by
 unfold fb sV;simp only
 grind
theorem atn(s t:Int)(u v:Sp):Dt (sV s u) (sV t v)=s*t*Dt u v:=by
 unfold Dt sV;simp only
 grind
theorem Kz(u v:Sp):fb v u= -(fb u v):=by
 unfold fb
 grind
theorem tr0{u x y:Sp}(hu:Si u)(hx:Si x)(hy:Si y)(h1:0≤fb u x)(h2:0≤fb x y):0≤fb u y∧(fb u y=0→fb u x=0∧fb x y=0):=by
 obtain⟨a,b⟩:=u;obtain⟨c,d⟩:=x;obtain⟨e,f⟩:=y
 have id:d*fb (a,b) (e,f)=f*fb (a,b) (c,d)+b*fb (c,d) (e,f):=by
  unfold fb;simp only
  grind
 unfold Si at hu hx hy;simp only at hu hx hy;by_cases hd:0<d
 ·have p1:0≤f*fb (a,b) (c,d):=ad7 (by omega) h1;have p2:0≤b*fb (c,d) (e,f):=ad7 (by omega) h2;have p3:0≤fb (a,b) (e,f):=av8 (a:=d) (by omega) hd;refine⟨p3,fun h0=>?_⟩;rw[h0,aJr]at id
  have q1:f*fb (a,b) (c,d)=0:=by omega
  have q2:b*fb (c,d) (e,f)=0:=by omega
  have hf:f≠0:=by
   rintro rfl;unfold fb at h2;simp only at h2;have:=Iy hd (show 0<e by omega);omega
  have r1:=(C4.1 q1).resolve_left hf;refine⟨r1,?_⟩;by_cases hb:b=0
  ·exfalso;subst hb;unfold fb at r1;simp only at r1;have:=Iy (show 0<a by omega) hd;omega
  exact(C4.1 q2).resolve_left hb
 have hd0:d=0:=by omega
 subst hd0
 have hc:0<c:=by omega
 unfold fb at*
 simp only at*
 by_cases hb:0<b
 ·have:=Iy hb hc;omega
 have hb0:b=0:=by omega
 subst hb0
 have ha:0<a:=by omega
 have p1:0≤a*f:=ad7 (by omega) (by omega);refine⟨by omega,fun h0=>?_⟩
 have:a*f=0:=by omega
 have:f=0:=(C4.1 this).resolve_left (by omega);subst this;omega
theorem tr1{u x y:Sp}(hu:Si u)(hx:Si x)(hy:Si y):(0≤fb u x∧0≤fb x y)→(0≤fb u y∧(fb u y=0→fb u x=0∧fb x y=0)):=fun⟨a,b⟩=>tr0 hu hx hy a b
theorem al0{u x:Sp}(hu:Si u)(hx:Si x)(h:fb u x=0):0<Dt u x:=by
 obtain⟨a,b⟩:=u;obtain⟨c,d⟩:=x
 unfold Si fb Dt at*
 simp only at*
 rcases hu with hu|⟨rfl,hu⟩<;>rcases hx with hx|⟨rfl,hx⟩
 ·have p:=Iy hu hx
  have q:0≤a*c:=by
   have:0≤(a*c)*(b*d):=by
    have e:(a*c)*(b*d)=(a*d)*(a*d):=by grind
    rw[e];rcases aJ6 0 (a*d)with g|g
    ·exact ad7 g g
    exact D3 g g
   exact ayx this p
  omega
 ·have:=Iy hu hx;omega
 ·have:=Iy hu hx;omega
 have:=Iy hu hx;omega
def bet(u y x:Sp):Bool:=
 (decide (yb x u<0)&& !decide (yb y u<0))||(decide (yb x u<0)==decide (yb y u<0)&&decide (0<yb x y))
def agi(c d:Int):Int:=if c<0 then 0 else if 0<c then 2 else if d<0 then 1 else 3
theorem akk(u x y:Sp):a7f u x y=if agi (fb u x) (Dt u x)=agi (fb u y) (Dt u y)then decide (fb x y<0)else decide (agi (fb u x) (Dt u x)<agi (fb u y) (Dt u y)):=rfl
theorem aBy(u y x:Sp):bet u y x=((decide (yb x u<0)&& !decide (yb y u<0))||(decide (yb x u<0)==decide (yb y u<0)&&decide (0<yb x y))):=rfl
theorem aue{u x y:Sp}(hu:u≠(0,0))(hx:x≠(0,0))(hy:y≠(0,0)):bet u y x=a7f u x y:=by
 obtain⟨su,u,rfl,hu0,hu1⟩:=Wq hu;obtain⟨sx,x,rfl,hx0,hx1⟩:=Wq hx;obtain⟨sy,y,rfl,hy0,hy1⟩:=Wq hy;have t1:=tr1 hu0 hx0 hy0;have t2:=tr1 hu0 hy0 hx0;have t3:=tr1 hx0 hu0 hy0;have t4:=tr1 hx0 hy0 hu0;have t5:=tr1 hy0 hu0 hx0;have t6:=tr1 hy0 hx0 hu0;have d1:=al0 hu0 hx0;have d2:=al0 hu0 hy0
 rw[Kz u x,Kz u y,Kz x y]at*
 have c1:=U8 su sx u x;have c2:=U8 su sy u y;have c3:=U8 sx sy x y;have c4:=U8 sx su x u;have c5:=U8 sy su y u;have e1:=atn su sx u x;have e2:=atn su sy u y;rw[Kz u x]at c4;rw[Kz u y]at c5;rw[aBy,akk];unfold yb
 generalize fb u x=p at*
 generalize fb u y=q at*
 generalize fb x y=r at*
 generalize Dt u x=m at*
 generalize Dt u y=n at*
 rcases hu1 with ⟨rfl,hu1⟩|⟨rfl,hu1⟩<;>rcases hx1 with ⟨rfl,hx1⟩|⟨rfl,hx1⟩<;>rcases hy1 with ⟨rfl,hy1⟩|⟨rfl,hy1⟩<;>
  (simp only[hu1,hx1,hy1,c1,c2,c3,c4,c5,e1,e2];clear hu1 hx1 hy1 c1 c2 c3 c4 c5 e1 e2 hu hx hy hu0 hx0 hy0
   rw[Sn];simp only[N2,cj,decide_eq_true_eq,beq_iff_eq,pz,decide_eq_false_iff_not,decide_eq_decide,agi];simp
   by_cases p0:p<0<;>by_cases p1:0<p<;>by_cases q0:q<0<;>by_cases q1:0<q<;>by_cases m0:0<m<;>by_cases n0:0<n<;>simp[p0,p1,q0,q1,m0,n0,show 0<m→¬m<0 by omega,show 0<n→¬n<0 by omega]<;>omega)
theorem alo{s n a c:Int}(hs:0<s)(hn:s≤n)(h:a*n=s*c):(0≤c→0≤a∧a≤c)∧(c≤0→c≤a∧a≤0):=by
 have hn0:0<n:=by omega
 refine⟨fun hc=>⟨?_,?_⟩,fun hc=>⟨?_,?_⟩⟩
 ·have:=ad7 (aIa hs) hc;rw[←h]at this;exact ayx this hn0
 ·have:=Int.mul_le_mul_of_nonneg_right hn hc;rw[←h,zr n c]at this;exact a7c this hn0
 ·have:=Int.mul_le_mul_of_nonpos_right hn hc;rw[←h,zr n c]at this;exact a7c this hn0
 have:=Iu (aIa hs) hc;rw[←h]at this;refine a7c (a:=n) ?_ hn0;omega
theorem ayy(a:Int):0≤a*a:=by
 rcases aJ6 0 a with h|h
 ·exact ad7 h h
 exact D3 h h
theorem sq_pos{a b:Int}(h:¬(a=0∧b=0)):0<a*a+b*b:=by
 have h1:=ayy a;have h2:=ayy b;by_cases ha:a=0
 ·have hb:b≠0:=fun q=>h ⟨ha,q⟩
  have:b*b≠0:=fun q=>hb (by rcases C4.1 q with q|q<;>exact q)
  omega
 have:a*a≠0:=fun q=>ha (by rcases C4.1 q with q|q<;>exact q)
 omega
theorem al4{o v w:Sp}(h:fb (kz v o) (kz w o)=0)(hd:0<Dt (kz v o) (kz w o))(hn:Dt (kz v o) (kz w o)≤Dt (kz w o) (kz w o)):onB (o,w) v=true:=by
 obtain⟨ox,oy⟩:=o;obtain⟨vx,vy⟩:=v;obtain⟨wx,wy⟩:=w
 unfold fb Dt kz at*
 simp only at*
 have e1:(vx-ox)*((wx-ox)*(wx-ox)+(wy-oy)*(wy-oy))=((vx-ox)*(wx-ox)+(vy-oy)*(wy-oy))*(wx-ox):=by grind
 have e2:(vy-oy)*((wx-ox)*(wx-ox)+(wy-oy)*(wy-oy))=((vx-ox)*(wx-ox)+(vy-oy)*(wy-oy))*(wy-oy):=by grind
 have b1:=alo hd hn e1;have b2:=alo hd hn e2;unfold onB j2 mn mx;simp only[cj,beq_iff_eq,decide_eq_true_eq];refine⟨by grind,?_⟩;clear e1 e2 h hd hn;rcases aJ6 0 (wx-ox)with c1|c1<;>rcases aJ6 0 (wy-oy)with c2|c2
 ·have q1:=b1.1 c1;have q2:=b2.1 c2;clear b1 b2;refine⟨?_,?_,?_,?_⟩<;>(try split)<;>omega
 ·have q1:=b1.1 c1;have q2:=b2.2 c2;clear b1 b2;refine⟨?_,?_,?_,?_⟩<;>(try split)<;>omega
 ·have q1:=b1.2 c1;have q2:=b2.1 c2;clear b1 b2;refine⟨?_,?_,?_,?_⟩<;>(try split)<;>omega
 have q1:=b1.2 c1;have q2:=b2.2 c2;clear b1 b2;refine⟨?_,?_,?_,?_⟩<;>(try split)<;>omega
theorem ar8{o v w:Sp}(h:fb (kz v o) (kz w o)=0)(hd:0<Dt (kz v o) (kz w o)):onB (o,w) v=true∨onB (o,v) w=true:=by
 rcases aJ6 (Dt (kz v o) (kz w o)) (Dt (kz w o) (kz w o))with g|g
 ·exact .inl (al4 h hd g)
 refine .inr (al4 ?_ ?_ ?_)
 ·rw[Kz,h];rfl
 ·have:Dt (kz w o) (kz v o)=Dt (kz v o) (kz w o):=by unfold Dt;grind
  rw[this];exact hd
 generalize kz v o=x at*
 generalize kz w o=y at*
 obtain⟨a,b⟩:=x;obtain⟨c,d⟩:=y
 unfold fb Dt at*
 simp only at*
 have id:(a*c+b*d)*(a*c+b*d)=(a*a+b*b)*(c*c+d*d):=by grind
 have hc:0<c*c+d*d:=by
  refine sq_pos fun⟨p,q⟩=>?_;subst p q;omega
 have e:c*a+d*b=a*c+b*d:=by grind
 rw[e]
 generalize a*c+b*d=s at*
 generalize c*c+d*d=n at*
 generalize a*a+b*b=m at*
 rcases P2 m s with k|k
 ·exfalso;have h1:m*n<s*n:=Int.mul_lt_mul_of_pos_right k hc;have h2:s*n≤s*s:=Z4 g (by omega);omega
 exact k
theorem ah7{u x y:Sp}(hu:u≠(0,0))(hx:x≠(0,0))(hy:y≠(0,0))(hn:¬(fb x y=0∧0<Dt x y))(h:a7f u x y=false):a7f u y x=true:=by
 rw[akk]at h⊢;obtain⟨p,q⟩:=u;obtain⟨a,b⟩:=x;obtain⟨c,d⟩:=y
 have i1:fb (p,q) (a,b)*(c*c+d*d)=fb (p,q) (c,d)*Dt (a,b) (c,d)-Dt (p,q) (c,d)*fb (a,b) (c,d):=by
  unfold fb Dt;simp only;grind
 have i2:Dt (p,q) (a,b)*(c*c+d*d)=Dt (p,q) (c,d)*Dt (a,b) (c,d)+fb (p,q) (c,d)*fb (a,b) (c,d):=by
  unfold fb Dt;simp only;grind
 have i3:Dt (a,b) (c,d)*Dt (a,b) (c,d)+fb (a,b) (c,d)*fb (a,b) (c,d)=(a*a+b*b)*(c*c+d*d):=by
  unfold fb Dt;simp only;grind
 have i4:Dt (p,q) (c,d)*Dt (p,q) (c,d)+fb (p,q) (c,d)*fb (p,q) (c,d)=(p*p+q*q)*(c*c+d*d):=by
  unfold fb Dt;simp only;grind
 have nc:0<c*c+d*d:=sq_pos fun⟨g1,g2⟩=>hy (by rw[g1,g2]);have na:0<a*a+b*b:=sq_pos fun⟨g1,g2⟩=>hx (by rw[g1,g2]);have np:0<p*p+q*q:=sq_pos fun⟨g1,g2⟩=>hu (by rw[g1,g2]);have m1:=Iy na nc;have m2:=Iy np nc;rw[Kz (a,b) (c,d)]
 generalize fb (p,q) (a,b)=X at*
 generalize fb (p,q) (c,d)=Y at*
 generalize fb (a,b) (c,d)=Z at*
 generalize Dt (p,q) (a,b)=U at*
 generalize Dt (p,q) (c,d)=V at*
 generalize Dt (a,b) (c,d)=W at*
 generalize c*c+d*d=n at*
 by_cases hk:agi X U=agi Y V
 ·rw[bm hk]at h;rw[bm hk.symm];rw[decide_eq_false_iff_not]at h;rw[decide_eq_true_eq];rcases P2 0 Z with z|z
  ·omega
  exfalso
  have hz:Z=0:=by omega
  subst hz
  have hW:W<0:=by
   rcases aF7 W 0 with w|w|w
   ·exact w
   ·subst w;omega
   exact absurd ⟨rfl,w⟩ hn
  simp only[aJr,Int.sub_zero,am7]at i1 i2
  have sx:(0<X→Y<0)∧(X<0→0<Y)∧(X=0→Y=0):=by
   refine⟨fun g=>?_,fun g=>?_,fun g=>?_⟩
   ·have:=Iy g nc;rcases P2 Y 0 with k|k
    ·exact k
    have:=Iu k (aIa hW);omega
   ·have:=aah g nc;rcases P2 0 Y with k|k
    ·exact k
    have:=D3 k (aIa hW);omega
   subst g;rw[am5]at i1;exact(C4.1 i1.symm).resolve_right (by omega)
  have su:(0<U→V<0)∧(U<0→0<V)∧(U=0→V=0):=by
   refine⟨fun g=>?_,fun g=>?_,fun g=>?_⟩
   ·have:=Iy g nc;rcases P2 V 0 with k|k
    ·exact k
    have:=Iu k (aIa hW);omega
   ·have:=aah g nc;rcases P2 0 V with k|k
    ·exact k
    have:=D3 k (aIa hW);omega
   subst g;rw[am5]at i2;exact(C4.1 i2.symm).resolve_right (by omega)
  have nz:¬(V=0∧Y=0):=by
   rintro⟨rfl,rfl⟩;omega
  clear i1 i2 i3 i4 m1 m2 nc na np hn hu hx hy;unfold agi at hk;split at hk<;>split at hk<;>(try split at hk)<;>(try split at hk)<;>(try split at hk)<;>omega
 rw[al hk]at h;rw[al (fun q=>hk q.symm)];rw[decide_eq_false_iff_not]at h;rw[decide_eq_true_eq];omega
theorem a1d{b fr Du s:Sp}(h1:fr≠(0,0))(h2:kz Du b≠(0,0))(h3:kz s b≠(0,0)):Ux b fr Du s=a7f fr (kz s b) (kz Du b):=aue h1 h3 h2
theorem aj6{b fr x:Sp}:∀(r:List Sp) (h:Sp),x∈h::r→(∀w∈h::r,w≠x→Ux b fr x w=false∧Ux b fr w x=true)→r.foldl (uj b fr) h=x:=by
 intro r
 induction r with
 |nil=>intro h hm _;simp at hm;exact hm.symm
 |cons t r ih=>
  intro h hm hb;rw[qe]
  have re:uj b fr h t=h∨uj b fr h t=t:=by unfold uj;split<;>simp
  refine ih _ ?_ ?_
  ·rcases dq.1 hm with rfl|hm
   ·by_cases ht:t=x
    ·subst ht;rcases re with q|q<;>rw[q]<;>simp
    have:=(hb t (by simp) ht).1;unfold uj;rw[this];simp
   rcases dq.1 hm with rfl|hm
   ·by_cases hh:h=x
    ·subst hh;rcases re with q|q<;>rw[q]<;>simp
    have:=(hb h (by simp) hh).2;unfold uj;rw[this];simp
   exact aad _ hm
  intro w hw;refine hb w ?_;rcases dq.1 hw with rfl|hw
  ·rcases re with q|q<;>rw[q]<;>simp
  simp[hw]
theorem aao{a b:Sp}(h:a≠b):kz a b≠(0,0):=fun q=>h (by
 unfold kz at q;have h1:=congrArg Prod.fst q;have h2:=congrArg Prod.snd q;simp only at h1 h2
 exact Q8 (by omega) (by omega))
theorem adl{a b c:Sp}(h:kz a c=kz b c):a=b:=by
 unfold kz at h;have h1:=congrArg Prod.fst h;have h2:=congrArg Prod.snd h;simp only at h1 h2;exact Q8 (by omega) (by omega)
theorem akj{a b:Sp}(h:a≠b):tf a b=false:=by
 cases q:tf a b
 ·rfl
 exact absurd (yg.1 q) h
theorem ag4{ls:List (List Sp)}{l:List Sp}{k:Nat}(hl:l∈ls)(hk:k<l.length):An l k∈gr ls:=by
 unfold gr;rw[Ff];exact⟨l,hl,by unfold ja;exact iw.2 ⟨k,ep.2 hk,rfl⟩⟩
theorem ann{es:List Ed}(h:G6 es=true)(hc:K4 es){o v w:Sp}(h1:(o,v)∈es)(h2:(o,w)∈es)(hne:v≠w):¬(fb (kz v o) (kz w o)=0∧0<Dt (kz v o) (kz w o)):=by
 rintro⟨hz,hd⟩;obtain⟨i,hi,ei⟩:=Ha h1;obtain⟨k,hk,ek⟩:=Ha h2;have si:=B4 h hi;have sk:=B4 h hk;rw[ei]at si;rw[ek]at sk;rcases ar8 hz hd with g|g
 ·obtain⟨f,hf,fe⟩:=hc.1 _ h1;obtain⟨m,hm,em⟩:=Ha hf;have:=(Uo (sk.2 m hm).1).2;rw[em,fe]at this;exact this ⟨g,fun q=>si.1 q.symm,hne⟩
 obtain⟨f,hf,fe⟩:=hc.1 _ h2;obtain⟨m,hm,em⟩:=Ha hf;have:=(Uo (si.2 m hm).1).2;rw[em,fe]at this;exact this ⟨g,fun q=>sk.1 q.symm,fun q=>hne q.symm⟩
theorem aog{ls:List (List Sp)}(h:G6 (gr ls)=true)(hc:K4 (gr ls))(ht:Nn ls (gr ls)=true){l:List Sp}(hl:l∈ls){k:Nat}(hk:k<l.length):a2p (gr ls) (An l k)=An l ((k+1)%l.length):=by
 have hm:(k+1)%l.length<l.length:=a73 _ (by omega)
 have e2:((k+1)%l.length+1)%l.length=(k+2)%l.length:=by rw[Nat.mod_add_mod]
 have m1:=ag4 hl hk;have m2:=ag4 hl hm
 have hT:∀e∈gr ls,Fk l k e=true:=by
  intro e he;obtain⟨i,hi,rfl⟩:=i6.1 hl;obtain⟨j,hj,rfl⟩:=Ha he;have a1:=cz.1 ht i (ep.2 hi)
  have:ls.getD i []=ls[i]:=by simp[cd,hi]
  rw[this]at a1;exact cz.1 (cz.1 a1 k (ep.2 hk)) j (ep.2 hj)
 unfold a2p;unfold An at m1 m2⊢;unfold Fk at hT;rw[e2]at m2⊢;simp only
 generalize l.getD k (0,0)=p at*
 generalize l.getD ((k+1)%l.length) (0,0)=a at*
 generalize l.getD ((k+2)%l.length) (0,0)=nx at*
 refine Q8 rfl ?_;simp only;have Bc:nx∈outs (gr ls) a:=Qr.2 m2
 have apart:∀{x y:Sp},(x,y)∈gr ls→x≠y:=by
  intro x y hxy;obtain⟨i,hi,ei⟩:=Ha hxy;have:=(B4 h hi).1;rw[ei]at this;exact this
 have back:∀w,(a,w)∈gr ls→w≠p:=by
  rintro w hw rfl;obtain⟨i,hi,ei⟩:=Ha m1;obtain⟨j,hj,ej⟩:=Ha hw
  have hne:i≠j:=by
   rintro rfl;rw[ei]at ej;exact apart m1 (congrArg Prod.fst ej)
  have:=(abj ((B4 h hi).2 j hj).2 hne).2;rw[ei,ej]at this;exact this ⟨rfl,rfl⟩
 have key:∀w∈outs (gr ls) a,w≠nx→Ux a (kz p a) nx w=false∧Ux a (kz p a) w nx=true:=by
  intro w hw hwn;have hw':=Qr.1 hw;have t:=hT _ hw';unfold Z7 at t;simp only at t;rw[bm (yg.2 rfl)]at t;unfold Vk at t;rw[akj (fun q=>back w hw' (adl q)),akj (fun q=>hwn (adl q))]at t;simp only[Li,uh,pz]at t;have n1:=aao (apart m1);have n2:=aao (fun q=>apart m2 (Eq.symm q));have n3:=aao (fun q=>apart hw' (Eq.symm q));rw[a1d n1 n2 n3,a1d n1 n3 n2];exact⟨t,ah7 n1 n3 n2 (ann h hc hw' m2 hwn) t⟩
 cases ho:outs (gr ls) a with
 |nil=>rw[ho]at Bc;simp at Bc
 |cons x r=>
  rw[ho]at Bc key;exact aj6 r x Bc key
theorem ag3{es:List Ed}(h:G6 es=true):es.Nodup:=by
 rw[D1,Bt];intro i j hi hj Io q;have:=(abj ((B4 h hi).2 j hj).2 (by omega)).1;simp only[cd,ax hi,ax hj,j6]at this;exact this q
theorem ah1{ls:List (List Sp)}(h:G6 (gr ls)=true)(hc:K4 (gr ls))(ht:Nn ls (gr ls)=true){l:List Sp}(hl:l∈ls)(h3:0<l.length)(hnd:(ja l).Nodup)(u:List Ed)(hu:∀e∈ja l,e∉u):
  ∀(d k m:Nat),k+d=l.length→d+1≤m→zt (gr ls) m (u++(ja l).take k) (An l (k%l.length))=(l.drop k,u++ja l):=by
 intro d
 induction d with
 |zero=>
  intro k m hk hm;obtain⟨m,rfl⟩:∃m',m=m'+1:=⟨m-1,by omega⟩
  have hk':k=l.length:=by omega
  subst hk'
  have ht:(ja l).take l.length=ja l:=by rw[←vn l];exact dt
  have hmt:Mv (u++ja l) (An l 0)=true:=Lt.2 (V3 _ (by unfold ja;exact iw.2 ⟨0,ep.2 h3,rfl⟩));unfold zt;rw[ht,Nat.mod_self,hmt,am2];rfl
 |succ d ih=>
  intro k m hk hm;obtain⟨m,rfl⟩:∃m',m=m'+1:=⟨m-1,by omega⟩
  have hk':k<l.length:=by omega
  have hkm:k%l.length=k:=aab hk';rw[hkm]
  have hg:(ja l)[k]? =some (An l k):=by unfold ja;simp[hk']
  have K7:An l k∈ja l:=jt hg
  have hnm:Mv (u++(ja l).take k) (An l k)=false:=by
   cases q:Mv (u++(ja l).take k) (An l k)
   ·rfl
   exfalso;rcases jm.1 (Lt.1 q)with q|q
   ·exact hu _ K7 q
   obtain⟨j,hj,ej⟩:=i6.1 q;rw[dw]at hj;rw[a2u]at ej
   have hk2:k<(ja l).length:=by rw[vn];exact hk'
   have e3:(ja l)[k]=An l k:=by rw[ax hk2]at hg;exact av0 hg
   rw[←e3]at ej;have:=(Bt.1 (D1.1 hnd)) j k (by omega) hk2 (by omega);exact this ej
  unfold zt;rw[hnm,aog h hc ht hl hk',oq,←O1 hk',ih (k+1) m (by omega) (by omega)]
  have hd:l.drop k=l.getD k (0,0)::l.drop (k+1):=by
   rw[jq hk'];simp[cd,hk']
  rw[hd];rfl
theorem ajy(es:List Ed):∀(r:List Ed) (x:List Ed×List (List Sp)),(∀e∈r,e∈x.1)→r.foldl (yq es) x=x:=by
 intro r
 induction r with
 |nil=>intro x _;rfl
 |cons e r ih=>
  intro x h
  have:yq es x e=x:=by
   unfold yq;rw[bm (Lt.2 (h e (by simp)))]
  rw[qe,this];exact ih x fun f hf=>h f (by simp[hf])
theorem agk{ls:List (List Sp)}(h:G6 (gr ls)=true)(hc:K4 (gr ls))(ht:Nn ls (gr ls)=true)(h3:∀l∈ls,3≤l.length):
  ∀(r:List (List Sp)) (u:List Ed) (R:List (List Sp)),(∀l∈r,l∈ls)→(u++gr r).Nodup→(gr r).foldl (yq (gr ls)) (u,R)=(u++gr r,R++r.map (Jy (Au (gr ls)) (Hd (gr ls)))):=by
 intro r
 induction r with
 |nil=>intro u R _ _;simp[gr]
 |cons l r ih=>
  intro u R hr hn;have hl:=hr l (by simp);have hl3:=h3 l hl;have e1:gr (l::r)=ja l++gr r:=rfl;rw[e1]at hn⊢;rw[←oq]at hn;have hn1:=(W1.1 hn).1;have hnd:=(W1.1 hn1).2.1;have hu:∀e∈ja l,e∉u:=fun e he hu=>(W1.1 hn1).2.2 e hu e he rfl;rw[mc]
  have hlen:l.length≤(gr ls).length:=by rw[Ng];exact Y7 hl
  have tl:=ah1 h hc ht hl (by omega) hnd u hu l.length 0 ((gr ls).length+1) (by omega) (by omega);rw[alz,y0,Nat.zero_mod,aI9]at tl
  have aB1:(ja l).foldl (yq (gr ls)) (u,R)=(u++ja l,R++[Jy (Au (gr ls)) (Hd (gr ls)) l]):=by
   have e2:∃t,ja l=An l 0::t:=by
    unfold ja;obtain⟨n,hn⟩:∃n,l.length=n+1:=⟨l.length-1,by omega⟩;rw[hn,List.range_succ_eq_map];exact⟨_,rfl⟩
   obtain⟨t,e2⟩:=e2
   have s1:yq (gr ls) (u,R) (An l 0)=(u++ja l,R++[Jy (Au (gr ls)) (Hd (gr ls)) l]):=by
    unfold yq;have:¬Mv u (An l 0)=true:=fun q=>hu _ (by rw[e2];simp) (Lt.1 q);rw[al this];simp only;rw[tl]
   rw[e2,qe,s1,←e2];refine ajy _ _ _ fun e he=>?_;simp only;rw[e2];simp[he]
  rw[aB1,ih _ _ (fun x hx=>hr x (by simp[hx])) hn];simp[oq]
theorem ayi{ls:List (List Sp)}(h:G6 (gr ls)=true)(ht:Nn ls (gr ls)=true)(h3:∀l∈ls,3≤l.length):Hh ls=C9 ls:=by
 have hc:=Rz h3;have:=agk h hc ht h3 ls [] [] (fun _ hl=>hl) (by simpa using ag3 h);unfold Hh we C9;rw[dt,this];simp
theorem a42{ls:List (List Sp)}(h:pg ls=true):mf ls=true:=by
 unfold pg at h;simp only[cj]at h;obtain⟨h1,h2,h3,h4⟩:=h;obtain⟨f1,f2,f3⟩:=a0w h1
 have hl3:∀l∈ls,3≤l.length:=by
  intro l hl;obtain⟨i,hi,rfl⟩:=i6.1 hl;have:=cz.1 h1 i (ep.2 hi);unfold Gs at this
  have e:ls.getD i []=ls[i]:=by simp[cd,hi]
  rw[e]at this;simp only[cj,decide_eq_true_eq]at this;exact this.1
 unfold mf;simp only[cj];refine⟨?_,?_,aml h2,ap9 h2 (Rz hl3) h3,?_⟩
 ·unfold Xh;rw[decide_eq_true f2,decide_eq_true (show ls.length≤60 by omega)];rfl
 ·refine cz.2 fun l hl=>?_;unfold okL;rw[decide_eq_true (hl3 l hl),uh];exact cz.2 (f3 l hl).2
 rw[ayi h2 h4 hl3];simp
def p0:Pm:=⟨⟨#[]⟩,0⟩
def Di(t:Tr)(s:ByteArray):Int:=xi (fun i=>kf (t.ps.getD i p0).n s) t.ps.length
def Ji(t:Tr)(s:ByteArray):Int:=xi (fun i=>kf (t.ns.getD i n0).n s) t.ns.length
section
variable{P:Program}(A:Pr P)
theorem aqb(p:Pm)(s:ByteArray):iq P A.tu [.agg (tx p),.te [.str s] 0] (.bool (kf p.n s)):=by
 refine du A.mo A.Yg (by simp) ?_;show ko P Jc (lg _ _) _;simp only[Jc,tx,kf,go_sem,aa,ae,ah]
theorem aqa(n:Nd)(s:ByteArray):iq P A.tq [.agg (wz n),.te [.str s] 0] (.bool (kf n.n s)):=by
 refine du A.mo A.Yf (by simp) ?_;show ko P Jb (lg _ _) _;simp only[Jb,wz,x6,lj,nr,kf,go_sem,aa,ae,ah]
theorem avv(t:Tr)(s:ByteArray)(hl:t.ps.length≤2^50):iq P A.xx [.agg (r8 t),.str s] (.int ab (Di t s)):=by
 refine du A.mo A.a2h (by simp) ?_;show ko P (Ml A.tu A.ml) (lg _ _) _
 have h:=aqo A (l:=t.ps) (g:=A.tu) (iy:=[.te [.str s] 0]) (p:=fun i=>kf (t.ps.getD i p0).n s) (fun i hi=>by
  have e:t.ps.getD i p0=t.ps[i]:=by simp[cd,hi]
  rw[e];exact aqb A _ _) hl
 simp only[jn]at h;simp only[Ml,r8,jn,l7,go_sem,aa,ae,ah];refine qw (ds:=[.ft 2 (t.ps.map tx),.nu A.tu [.te [.str s] 0]]) ?_ h rfl ?_
 ·simp only[go_sem,aa,nj,rb]
 simp only[go_sem,aa];rfl
theorem avu(t:Tr)(s:ByteArray)(hl:t.ns.length≤2^50):iq P A.xw [.agg (r8 t),.str s] (.int ab (Ji t s)):=by
 refine du A.mo A.a2g (by simp) ?_;show ko P (Mk A.tq A.j4) (lg _ _) _
 have h:=ae2 A (l:=t.ns) (g:=A.tq) (iy:=[.te [.str s] 0]) (p:=fun i=>kf (t.ns.getD i n0).n s) (fun i hi=>by
  have e:t.ns.getD i n0=t.ns[i]:=by simp[cd,hi]
  rw[e];exact aqa A _ _) hl
 simp only[l7]at h;simp only[Mk,r8,jn,l7,go_sem,aa,ae];refine qw (ds:=[.ft 5 (t.ns.map wz),.nu A.tq [.te [.str s] 0]]) ?_ h rfl ?_
 ·simp only[go_sem,aa,nj,rb]
 simp only[go_sem,aa];rfl
theorem an5(l:List Pm)(hl:l.length≤2^40):iq P A.fc [jn l] (jn l):=
 Ub A.mo (sz:=2) (by_:=24) (z:=[.str ⟨#[]⟩,.int ab 0]) A.Es (dd:=l.map tx) (by simp[tx,D.one]) (by simp only[ag];omega)
theorem ahn(l:List ByteArray)(hl:l.length≤2^40):iq P A.mu [nr l] (nr l):=
 Ub A.mo (sz:=1) (by_:=16) (z:=[.str ⟨#[]⟩]) A.Kf (dd:=l.map nh) (by simp[nh,D.one]) (by simp only[ag];omega)
theorem an3(l:List Vl)(hl:l.length≤2^40):iq P A.jz [x6 l] (x6 l):=
 Ub A.mo (sz:=3) (by_:=32) (z:=[.str ⟨#[]⟩,.int ab 0,.int ab 0]) A.zx (dd:=l.map cVl) (by simp[cVl,D.one]) (by simp only[ag];omega)
theorem an4(l:List Sp)(hl:l.length≤2^40):iq P A.fl [vz l] (vz l):=
 Ub A.mo (sz:=2) (by_:=16) (z:=[.int ab 0,.int ab 0]) A.Al (dd:=l.map Bs) (fun e he=>by obtain⟨p,_,rfl⟩:=iw.1 he;rfl) (by simp only[ag];omega)
theorem a94(ls:List (List Sp))(h1:ls.length≤2^30)(h2:∀l∈ls,l.length≤2^40):iq P A.jh [lj ls,.nu A.fl []] (lj ls):=by
 have main:iq P A.jh [lj ls,.nu A.fl []] (yc 1 (ls.map fun l=>[vz l])):=by
  refine du A.mo A.Lw (by simp) ?_;show ko P za (lg _ _) _;simp only[za,lj,go_sem,aa,reduceCtorEq];refine r9 (fun s'=>s'.base=0∧se s' 19 1 (ls.map fun l=>[vz l]) (s'.tmp 5)) ?_ ?_
  ·refine fh ls.length (fun i s'=>s'.base=0∧s'.tmp 1= .d (.nu A.fl [])∧s'.tmp 8= .d (.ft 1 (ls.map fun l=>[vz l]))∧s'.tmp 9= .d (.int ab ls.length)∧s'.tmp 10= .d (.int ab i)∧se s' 19 1 ((ls.take i).map fun l=>[vz l]) (s'.tmp 5)) ?_ ?_
   ·simp only[go_sem,aa,ag];exact se.nil
   rintro i s' hi ⟨eb,f1,f8,f9,f10,acc⟩;by_cases hlt:(i:Int)<ls.length
   ·have df:i<ls.length:=by omega
    have wi:=cu ((i:Int)+1) (by omega) (by omega);have hg:=Fc df;have hcl:=an4 A ls[i] (h2 _ (cy df))
    have e1:(ls.take (i+1)).map (fun l=>[vz l])=(ls.take i).map (fun l=>[vz l])++[[vz ls[i]]]:=by
     rw[fm,fu];simp[df]
    simp only[vz]at hcl;simp only[go_sem,aa,reduceCtorEq,eb,f1,f8,f9,f10,hlt,hg,bp,aq];refine a6j hcl ?_;simp only[go_sem,aa,dh];refine s5 (dd:=(ls.take i).map fun l=>[vz l]) (ys:=[[vz ls[i]]]) (osz:=some 1) ?_ ?_ rfl (by simp[vz,D.one]) ?_ (by simp) ?_
    ·simp only[go_sem,aa];exact acc.mono (by simp[ak]) (by simp[ak])
    ·simp only[go_sem,aa,qm,vz]
    ·simp only[ag,ca,ed,dw];omega
    intro s3 g;have Fv:=g.acc (by simp);rw[g.tmp,ck]at Fv;simp only[fj]at Fv;simp only[go_sem,aa,reduceCtorEq,g.tmp,g.base,f1,f8,f9,f10,wi,df,e1];refine⟨by rw[Sl];rfl,?_⟩;exact Fv.mono rfl rfl
   have:i=ls.length:=by omega
   subst this;rw[dt]at acc;simp only[go_sem,aa,reduceCtorEq,eb,f9,f10,hlt];exact acc.mono rfl rfl
  rintro s' ⟨eb,acc⟩;rcases acc with ⟨a1,a2⟩|⟨a1,a2,a3⟩
  ·simp only[go_sem,aa,eb,a1,a2,yc]
  simp only[go_sem,aa,eb,a2,a3,yc,al a1]
 exact main.M7 Jz
theorem avx(n:Nd)(hv:n.f.vs.length≤2^40)(h1:n.f.ls.length≤2^30)(h2:∀l∈n.f.ls,l.length≤2^40)(hi:n.ins.length≤2^40):iq P A.jg [.agg (wz n)] (.agg (wz n)):=by
 refine du A.mo A.a5m (by simp) ?_;show ko P (Ny A.mu A.jz A.jh A.fl) (lg _ _) _;have c1:=ahn A n.ins hi;have c2:=an3 A n.f.vs hv;have c3:=a94 A n.f.ls h1 h2;simp only[nr,x6,lj]at c1 c2 c3;simp only[Ny,wz,nr,x6,lj,go_sem,aa,ae];refine ff c1 ?_;simp only[go_sem,aa,ae,ah];refine ff c2 ?_;simp only[go_sem,aa,ae,ah];refine il c3 ?_;simp only[go_sem,aa,ae,ah]
theorem amr(l:List Nd)(h:l.length≤2^30)(hn:∀n∈l,n.f.vs.length≤2^40∧n.f.ls.length≤2^30∧(∀q∈n.f.ls,q.length≤2^40)∧n.ins.length≤2^40):iq P A.dr [l7 l,.nu A.jg []] (l7 l):=by
 have main:iq P A.dr [l7 l,.nu A.jg []] (yc 5 (l.map wz)):=by
  refine du A.mo A.Lv (by simp) ?_;show ko P yz (lg _ _) _;simp only[yz,l7,go_sem,aa,reduceCtorEq];refine r9 (fun s'=>s'.base=0∧se s' 19 5 (l.map wz) (s'.tmp 5)) ?_ ?_
  ·refine fh l.length (fun i s'=>s'.base=0∧s'.tmp 1= .d (.nu A.jg [])∧s'.tmp 8= .d (.ft 5 (l.map wz))∧s'.tmp 9= .d (.int ab l.length)∧s'.tmp 10= .d (.int ab i)∧se s' 19 5 ((l.take i).map wz) (s'.tmp 5)) ?_ ?_
   ·simp only[go_sem,aa,ag];exact se.nil
   rintro i s' hi ⟨eb,f1,f8,f9,f10,acc⟩;by_cases hlt:(i:Int)<l.length
   ·have df:i<l.length:=by omega
    have wi:=cu ((i:Int)+1) (by omega) (by omega);have hg:=Fe df
    have hm:l.getD i n0∈l:=by
     have e:l.getD i n0=l[i]:=by simp[cd,df]
     rw[e];exact cy _
    obtain⟨k1,k2,k3,k4⟩:=hn _ hm;have hcl:=avx A (l.getD i n0) k1 k2 k3 k4
    have e1:(l.take (i+1)).map wz=(l.take i).map wz++[wz (l.getD i n0)]:=by
     rw[fm,fu];simp[df,cd]
    generalize l.getD i n0=n at*
    have e2:wz n=[.str n.n,.int ab n.f.k,.ft 3 (n.f.vs.map cVl),.ft 1 (n.f.ls.map fun l=>[vz l]),.ft 1 (n.ins.map nh)]:=rfl;rw[e2]at hcl;simp only[x6,lj,nr]at hg;simp only[go_sem,aa,ae,reduceCtorEq,eb,f1,f8,f9,f10,hlt,hg,bp,aq];refine a6j hcl ?_;simp only[go_sem,aa,ae,dh];refine s5 (dd:=(l.take i).map wz) (ys:=[wz n]) (osz:=some 5) ?_ ?_ rfl (by simp[wz,x6,lj,nr,D.one]) ?_ (by simp) ?_
    ·simp only[go_sem,aa];exact acc.mono (by simp[ak]) (by simp[ak])
    ·simp only[go_sem,aa,qm,e2]
    ·simp only[ag,ca,ed,dw];omega
    intro s3 g;have Fv:=g.acc (by simp);rw[g.tmp,ck]at Fv;simp only[fj]at Fv;simp only[go_sem,aa,reduceCtorEq,g.tmp,g.base,f1,f8,f9,f10,wi,df,e1];refine⟨by rw[Sl];rfl,?_⟩;exact Fv.mono rfl rfl
   have:i=l.length:=by omega
   subst this;rw[dt]at acc;simp only[go_sem,aa,reduceCtorEq,eb,f9,f10,hlt];exact acc.mono rfl rfl
  rintro s' ⟨eb,acc⟩;rcases acc with ⟨a1,a2⟩|⟨a1,a2,a3⟩
  ·simp only[go_sem,aa,eb,a1,a2,yc]
  simp only[go_sem,aa,eb,a2,a3,yc,al a1]
 exact main.M7 Jz
def Mid(t:Tr):Prop:=t.ps.length≤2^30∧t.ns.length≤2^20∧∀n∈t.ns,n.f.vs.length≤2^30∧n.f.ls.length≤2^30∧(∀q∈n.f.ls,q.length≤2^30)∧n.ins.length≤2^30
theorem a3x(t:Tr)(h:Mid t):iq P A.la [.agg (r8 t)] (.agg (r8 t)):=by
 refine du A.mo A.Zz (by simp) ?_;show ko P (Kr A.fc A.dr A.jg) (lg _ _) _;obtain⟨h1,h2,h3⟩:=h;have c1:=an5 A t.ps (by omega)
 have c2:=amr A t.ns (by omega) (fun n hn=>by
  obtain⟨k1,k2,k3,k4⟩:=h3 n hn
  exact⟨by omega,by omega,fun q hq=>by have:=k3 q hq;omega,by omega⟩)
 simp only[jn,l7]at c1 c2;simp only[Kr,r8,jn,l7,go_sem,aa,ae,ah];refine ff c1 ?_;simp only[go_sem,aa,ae];refine il c2 ?_;simp only[go_sem,aa,ae,ah]
end
def Own(m:Mem)(id sz:Nat)(dd:List (List D))(c:C):Prop:=(dd=[]∧c= .d .cq)∨(c= .ref id (m.av id) dd.length∧m.da id=some (.arr sz dd))
theorem Own.mono{m m':Mem}{id sz:Nat}{dd:List (List D)}{c:C}(h:Own m id sz dd c)(hb:m'.da id=m.da id)(hv:m'.av id=m.av id):Own m' id sz dd c:=by
 rcases h with h|⟨h1,h2⟩
 ·exact .inl h
 exact .inr ⟨by rw[hv];exact h1,by rw[hb];exact h2⟩
theorem Own.wf{m:Mem}{id sz:Nat}{dd:List (List D)}{c:C}(h:Own m id sz dd c):Nj m c:=by
 rcases h with ⟨_,rfl⟩|⟨rfl,_⟩
 ·trivial
 exact ay _
theorem Own.one{s:PS}{id sz:Nat}{dd:List (List D)}{c:C}(h:Own s.mem id sz dd c):C.one s c=true:=by
 rcases h with ⟨_,rfl⟩|⟨rfl,h2⟩
 ·rfl
 have h2':s.da id=some (.arr sz dd):=h2;simp[C.one,V.live,PS.Iw,PS.mem,h2',B.Cz]
structure Ext(m:Mem)(b:Nat)(K:Nat→Prop)(m':Mem):Prop where
 low:∀i,i<b→m'.da i=m.da i∧m'.av i=m.av i∧m'.mp i=m.mp i
 high:∀i,b≤i→¬K i→m'.da i=none
 mps:∀i,b≤i→m'.mp i=none
 av:∀i,m.av i≤m'.av i
 wf:∀i,b≤i→∀x,m'.da i=some x→M4 m' x
theorem M4.mono{m m':Mem}(h:∀i,m.av i≤m'.av i){x:B}(hx:M4 m x):M4 m' x:=by
 cases x with
 |arr=>trivial
 |Ro=>trivial
 |loc cs=>exact fun c hc=>(hx c hc).mono h
 |qq sz dd=>exact fun e he c hc=>(hx e he c hc).mono h
def w8(m:Mem)(b:Nat):Prop:=∀i,b≤i→m.da i=none∧m.mp i=none
open Classical in
noncomputable def Mem.only(m:Mem)(b:Nat)(K:Nat→Prop):Mem:=⟨fun i=>if i<b∨K i then m.da i else none,m.av,fun i=>if i<b then m.mp i else none⟩
section
variable{P:Program}{s:PS}
theorem Tk{m:Mem}{b:Nat}{K:Nat→Prop}{r:V}(zc:∀i,m.av i≤s.av i)(a5a:∀i,i<b→s.da i=m.da i∧s.av i=m.av i∧s.mp i=m.mp i)(hK:∀i,K i→∀x,s.da i=some x→M4 s.mem x)(hr:Gu s.mem r):
  Leaves m s (s.mem.only b K) r∧Ext m b K (s.mem.only b K):=by
 refine⟨⟨fun i=>⟨?_,?_⟩,zc,fun i x hx=>?_,fun i es hi=>?_,?_⟩,⟨fun i hi=>?_,fun i hi hn=>?_,fun i hi=>?_,zc,fun i hi x hx=>?_⟩⟩
 ·simp only[Mem.only];split
  ·exact .inr ⟨rfl,trivial⟩
  exact .inl rfl
 ·simp only[Mem.only];split
  ·exact .inr ⟨rfl,trivial⟩
  exact .inl rfl
 ·simp only[Mem.only]at hx;split at hx
  ·rename_i h;rcases V0 i b with h|h'
   ·exact .inl (by rw[←(a5a i h).1];exact hx)
   have hk:K i:=h.resolve_left (by omega);have:=hK i hk x hx;right;cases x<;>exact this
  cases hx
 ·simp only[Mem.only]at hi;split at hi
  ·rename_i h;exact .inl (by rw[←(a5a i h).2.2];exact hi)
  cases hi
 ·cases r<;>exact hr
 ·simp only[Mem.only];rw[bm (.inl hi),bm hi];exact a5a i hi
 ·simp only[Mem.only]
  rw[al (by rintro(h|h);omega;exact hn h)]
 ·simp only[Mem.only];rw[al (by omega)]
 simp only[Mem.only]at hx;split at hx
 ·rename_i h;have hk:K i:=h.resolve_left (by omega);have:=hK i hk x hx;cases x<;>exact this
 cases hx
theorem a4f{m:Mem}{b id sz:Nat}{K:Nat→Prop}{dd:List (List D)}{c:C}(h:Own m id sz dd c)(hk:K id):Own (m.only b K) id sz dd c:=
 h.mono (by simp[Mem.only,hk]) rfl
theorem D0.mono{f:Nat}{args:List V}{R R':Mem→V→Prop}(h:D0 P f s args R)(hR:∀m r,R m r→R' m r):D0 P f s args R':=
 ⟨h.1,fun B0 w0 nt G0 G E a w vs hF hl hrel=>(h.2 B0 w0 nt G0 G E a w vs hF hl hrel).mono fun _ _ ⟨v,G',E',m',r,h1,h2,h3⟩=>⟨v,G',E',m',r,h1,hR _ _ h2,h3⟩⟩
theorem D0.split{f sz:Nat}{az:List V}{R:Mem→V→Prop}(h1:D0 P f s (.d .cq::az) R)(h2:D0 P f s (.d .Np::az) R):D0 P f s (.d (.ft sz [])::az) R:=by
 refine⟨h1.1,fun B0 w0 nt G0 G E a w vs hF hl hrel=>?_⟩
 have hl':vs.size=az.length+1:=by simpa using hl
 have h0:gj G (.ft sz []) vs[0]:=hrel 0 (.d (.ft sz [])) vs[0] rfl (bd (by omega))
 have rest:∀y:D,gj G y vs[0]→∀(i:Nat) (x:V) (v:Value),(V.d y::az)[i]? =some x→vs[i]? =some v→ij G E s x v:=by
  intro y hy i x v hx hv
  cases i with
  |zero=>
   simp only[dm,aj]at hx;rw[bd (by omega)]at hv
   injection hv with hv
   subst hx hv;exact hy
  |succ i=>exact hrel (i+1) x v hx hv
 generalize hv0:vs[0]=v0 at h0 rest
 cases h0 with
 |V6=>exact h1.2 B0 w0 nt G0 G E a w vs hF (by simpa using hl) (rest _ .cq)
 |ft=>exact h2.2 B0 w0 nt G0 G E a w vs hF (by simpa using hl) (rest _ .Np)
 |Xg=>exact h2.2 B0 w0 nt G0 G E a w vs hF (by simpa using hl) (rest _ .Np)
def aC3(m:Mem)(b sz:Nat)(dd:List (List D))(m':Mem)(r:V):Prop:=
 (dd=[]∧m'=m∧r= .d .cq)∨(m'=m.put (b+5) (m.av (b+5)+1) (.arr sz dd)∧r= .ref (b+5) (m.av (b+5)+1) dd.length)
theorem ajv(hm:P.follows .mixedOrders=true){f:Nat}{sz by_:Nat}{z:List D}(hf:ew P f {}=some (Ik sz by_ z,[.tmp 2],8))(m:Mem)(b:Nat):
  qz P f m [.d .Np] (m.put (b+5) (m.av (b+5)+1) (.arr sz [])) (.ref (b+5) (m.av (b+5)+1) 0):=by
 refine mq hm hf (by simp) b (fun c=>?_) (Mem.La (by omega)) Mem.Pu (fun i es hi=> .inl hi) (by simp[Gu,Mem.put,ck]);show ko P (Ik sz by_ z) (Bq m [.tmp 2] _ _) _;simp only[Ik,enter,go_sem,aa,ah,reduceCtorEq,dh,Lo,qm,azs,azp,sv,Ac];intro i;simp only[Mem.put,PS.mem,ak];by_cases hi:i=b+5
 ·subst hi;simp
 simp[hi]
theorem a3e(hm:P.follows .mixedOrders=true){f:Nat}{sz by_:Nat}{z:List D}(hf:ew P f {}=some (Ik sz by_ z,[.tmp 2],8)){dd:List (List D)}(ho:∀e∈dd,e.all D.one=true)(hb:dd.length*by_≤2^47)(s:PS)(b:Nat):
  D0 P f s [.d (.ft sz dd)] (aC3 s.mem b sz dd):=by
 by_cases hne:dd=[]
 ·subst hne;refine D0.split ?_ ?_
  ·have:=((ap4 hm hf).toR).toE (s:=s);refine D0.mono this ?_;rintro m r ⟨rfl,x,rfl,rfl⟩;exact .inl ⟨rfl,rfl,rfl⟩
  refine D0.mono (ajv hm hf s.mem b).toR ?_;rintro m r ⟨rfl,rfl⟩;exact .inr ⟨rfl,rfl⟩
 refine D0.mono (aa6 hm hf hne ho hb s.mem b).toR ?_;rintro m r ⟨rfl,rfl⟩;exact .inr ⟨rfl,rfl⟩
theorem a9m{cs:List C}:(mkv true cs).cells s=some cs:=by
 unfold mkv
 cases h:Om cs with
 |none=>rfl
 |some ds=>
  have:∀(cs:List C) (ds:List D),Om cs=some ds→ds.map C.d=cs:=by
   intro cs
   induction cs with
   |nil=>intro ds h;simp[Om]at h;subst h;rfl
   |cons c r ih=>
    intro ds h
    cases c with
    |d x=>
     simp only[Om]at h;split at h
     ·rename_i l hl
      injection h with h
      subst h;simp[ih l hl]
     cases h
    |_=>simp[Om]at h
  simp only[V.cells,this cs ds h]
end
def Od(m:Mem)(b:Nat)(n:Nd)(e:List C):Prop:=∃cV cI,e=[.d (.str n.n),.d (.int ab n.f.k),cV,.d (lj n.f.ls),cI]∧Own m (b+45) 3 (n.f.vs.map cVl) cV∧Own m (b+35) 1 (n.ins.map nh) cI
def azl(m:Mem)(b:Nat)(n:Nd)(m':Mem)(r:V):Prop:=Ext m b (fun i=>i=b+45∨i=b+35) m'∧∃e,r=mkv true e∧Od m' b n e
theorem Zl{m:Mem}{cs:List C}(h:∀c∈cs,Nj m c):Gu m (mkv true cs):=by
 unfold mkv
 cases Om cs with
 |none=>exact h
 |some ds=>trivial
theorem Od.wf{m:Mem}{b:Nat}{n:Nd}{e:List C}(h:Od m b n e):∀c∈e,Nj m c:=by
 obtain⟨cV,cI,rfl,h1,h2⟩:=h;intro c hc;simp only[dq,kh,or_false]at hc;rcases hc with rfl|rfl|rfl|rfl|rfl
 ·trivial
 ·trivial
 ·exact h1.wf
 ·trivial
 exact h2.wf
theorem Y3{m:Mem}{s:PS}{b:Nat}{n:Nd}{cV cI:C}(ht:s.tmp 2= .ic (b+2) (s.av (b+2)) 0)(hb:s.da (b+2)=some (.loc [.d (.str n.n),.d (.int ab n.f.k),cV,.d (lj n.f.ls),cI]))
  (oV:Own s.mem (b+45) 3 (n.f.vs.map cVl) cV)(oI:Own s.mem (b+35) 1 (n.ins.map nh) cI)(zc:∀i,m.av i≤s.av i)(a5a:∀i,i<b→s.da i=m.da i∧s.av i=m.av i∧s.mp i=m.mp i)
  (hV:∀x,s.da (b+45)=some x→M4 s.mem x)(hI:∀x,s.da (b+35)=some x→M4 s.mem x):
  ∃m' r,azl m b n m' r∧sv s [.cell 2 5 true]=some r∧Leaves m s m' r:=by
 have hC:Od s.mem b n [.d (.str n.n),.d (.int ab n.f.k),cV,.d (lj n.f.ls),cI]:=⟨cV,cI,rfl,oV,oI⟩
 obtain⟨k1,k2⟩:=Tk (m:=m) (s:=s) (b:=b) (K:=fun i=>i=b+45∨i=b+35) (r:=mkv true [.d (.str n.n),.d (.int ab n.f.k),cV,.d (lj n.f.ls),cI]) zc a5a (fun i hi x hx=>by
  rcases hi with rfl|rfl
  ·exact hV x hx
  exact hI x hx) (Zl hC.wf)
 refine⟨_,_,⟨k2,_,rfl,cV,cI,rfl,a4f oV (.inl rfl),a4f oI (.inr rfl)⟩,?_,k1⟩;simp only[sv,Ac,ht,Br,PS.cs,hb,dj];rfl
section
variable{P:Program}(A:Pr4 P)
theorem avw(n:Nd)(hv:n.f.vs.length≤2^40)(h1:n.f.ls.length≤2^30)(h2:∀l∈n.f.ls,l.length≤2^40)(hi:n.ins.length≤2^40)(s:PS)(b:Nat)(mh:w8 s.mem b):D0 P A.jg s [.d (.agg (wz n))] (azl s.mem b n):=by
 refine U2 A.mo A.a2i (by simp) b fun cx=>?_;show ko P (Mm A.mu A.jz A.jh A.fl) _ _;have c3:=a94 A.toPr n.f.ls h1 h2;simp only[lj]at c3;simp only[Mm,enter,wz,nr,x6,lj,go_sem,aa,ae];refine kg (a3e A.mo (sz:=1) (by_:=16) (z:=[.str ⟨#[]⟩]) A.Kf (dd:=n.ins.map nh) (by simp[nh,D.one]) (by simp only[ag];omega) _ (b+30)) ?_;rintro m1 r1 (⟨e1,rfl,rfl⟩|⟨rfl,rfl⟩)
 ·simp only[go_sem,aa,ae,ah,PS.j0,PS.mem];refine kg (a3e A.mo (sz:=3) (by_:=32) (z:=[.str ⟨#[]⟩,.int ab 0,.int ab 0]) A.zx (dd:=n.f.vs.map cVl) (by simp[cVl,D.one]) (by simp only[ag];omega) _ (b+40)) ?_;rintro m2 r2 (⟨e2,rfl,rfl⟩|⟨rfl,rfl⟩)
  ·simp only[go_sem,aa,ae,ah,PS.j0,PS.mem];refine il c3 ?_;simp only[go_sem,aa,ae,ah,reduceCtorEq];refine Y3 (cV:= .d .cq) (cI:= .d .cq) (by simp[ak]) (by simp[ak,lj]) (.inl ⟨e2,rfl⟩) (.inl ⟨e1,rfl⟩) (fun i=>?_) (fun i hi=>?_) (fun x hx=>?_) (fun x hx=>?_)
   ·simp only[ak]
    (repeat' split)<;>first|omega|(subst_vars;omega)
   ·simp only[ak]
    refine⟨?_,?_,trivial⟩<;>(repeat' split)<;>first|omega|rfl
   ·simp only[ak,s7,aa,ee]at hx
    first|(injection hx with hx;subst hx;trivial)|(rw[show s.da (b+45)=none from(mh _ (by omega)).1]at hx;cases hx)
   simp only[ak,s7,aa,ee]at hx
   first|(injection hx with hx;subst hx;trivial)|(rw[show s.da (b+35)=none from(mh _ (by omega)).1]at hx;cases hx)
  simp only[go_sem,aa,ae,ah,PS.j0,PS.mem,Mem.put,qj,gq,ag];refine il c3 ?_;simp only[go_sem,aa,ae,ah,reduceCtorEq,gq,ag];refine Y3 (cV:= .ref (b+45) (s.av (b+45)+1) n.f.vs.length) (cI:= .d .cq) (by simp[ak]) (by simp[ak,lj]) (.inr ⟨by simp[PS.mem,ak],by simp[PS.mem,ak]⟩) (.inl ⟨e1,rfl⟩) (fun i=>?_) (fun i hi=>?_) (fun x hx=>?_) (fun x hx=>?_)
  ·simp only[ak]
   (repeat' split)<;>first|omega|(subst_vars;omega)
  ·simp only[ak]
   refine⟨?_,?_,trivial⟩<;>(repeat' split)<;>first|omega|rfl
  ·simp only[ak,s7,aa,dj,ee]at hx
   first|(injection hx with hx;subst hx;trivial)|(rw[show s.da (b+45)=none from(mh _ (by omega)).1]at hx;cases hx)
  simp only[ak,s7,aa,ee]at hx
  first|(injection hx with hx;subst hx;trivial)|(rw[show s.da (b+35)=none from(mh _ (by omega)).1]at hx;cases hx)
 simp only[go_sem,aa,ae,ah,PS.j0,PS.mem,Mem.put,qj,gq,ag];refine kg (a3e A.mo (sz:=3) (by_:=32) (z:=[.str ⟨#[]⟩,.int ab 0,.int ab 0]) A.zx (dd:=n.f.vs.map cVl) (by simp[cVl,D.one]) (by simp only[ag];omega) _ (b+40)) ?_;rintro m2 r2 (⟨e2,rfl,rfl⟩|⟨rfl,rfl⟩)
 ·simp only[go_sem,aa,ae,ah,PS.j0,PS.mem];refine il c3 ?_;simp only[go_sem,aa,ae,ah,reduceCtorEq,gq,ag];refine Y3 (cV:= .d .cq) (cI:= .ref (b+35) (s.av (b+35)+1) n.ins.length) (by simp[ak]) (by simp[ak,lj]) (.inl ⟨e2,rfl⟩) (.inr ⟨by simp[PS.mem,ak],by simp[PS.mem,ak]⟩) (fun i=>?_) (fun i hi=>?_) (fun x hx=>?_) (fun x hx=>?_)
  ·simp only[ak]
   (repeat' split)<;>first|omega|(subst_vars;omega)
  ·simp only[ak]
   refine⟨?_,?_,trivial⟩<;>(repeat' split)<;>first|omega|rfl
  ·simp only[ak,s7,aa,ee]at hx
   first|(injection hx with hx;subst hx;trivial)|(rw[show s.da (b+45)=none from(mh _ (by omega)).1]at hx;cases hx)
  simp only[ak,s7,aa,dj,ee]at hx
  first|(injection hx with hx;subst hx;trivial)|(rw[show s.da (b+35)=none from(mh _ (by omega)).1]at hx;cases hx)
 simp only[go_sem,aa,ae,ah,PS.j0,PS.mem,Mem.put,qj,gq,ag];refine il c3 ?_;simp only[go_sem,aa,ae,ah,reduceCtorEq,gq,ag];refine Y3 (cV:= .ref (b+45) (s.av (b+45)+1) n.f.vs.length) (cI:= .ref (b+35) (s.av (b+35)+1) n.ins.length) (by simp[ak]) (by simp[ak,lj]) (.inr ⟨by simp[PS.mem,ak],by simp[PS.mem,ak]⟩) (.inr ⟨by simp[PS.mem,ak],by simp[PS.mem,ak]⟩) (fun i=>?_) (fun i hi=>?_) (fun x hx=>?_) (fun x hx=>?_)
 ·simp only[ak]
  (repeat' split)<;>first|omega|(subst_vars;omega)
 ·simp only[ak]
  refine⟨?_,?_,trivial⟩<;>(repeat' split)<;>first|omega|rfl
 ·simp only[ak,s7,aa,dj,ee]at hx
  first|(injection hx with hx;subst hx;trivial)|(rw[show s.da (b+45)=none from(mh _ (by omega)).1]at hx;cases hx)
 simp only[ak,s7,aa,dj,ee]at hx
 first|(injection hx with hx;subst hx;trivial)|(rw[show s.da (b+35)=none from(mh _ (by omega)).1]at hx;cases hx)
end
def aEx(s:PS)(id sz:Nat)(dd:List (List C))(v:V):Prop:=(dd=[]∧v= .d .cq)∨(dd≠[]∧v= .ref id (s.av id) dd.length∧s.da id=some (.qq sz dd))
structure aC2(s s':PS)(d id sz:Nat)(dd:List (List C)):Prop where
 tmp:s'.tmp=lb s.tmp d (.ref id (s'.av id) dd.length)
 da:s'.da=lb s.da id (some (.qq sz dd))
 av:∀j,j≠id→s'.av j=s.av j
 aCi:s.av id≤s'.av id
 mp:s'.mp=s.mp
 base:s'.base=s.base
section
variable{P:Program}{Q:Exit→PS→Prop}{K:PS→Prop}{s:PS}{r:List RI}{d:Option Nat}{af:List Nat}
theorem awu{d sz t:Nat}{z:List D}{cs:List C}(hc:(s.tmp t).cells s=some cs)(hl:cs.length=sz)(hz:z.length=sz)(h1:cs.all (C.one s)=true)
  (h:l5 P r {s with tmp:=lb s.tmp d (.ref (s.base+d) (s.av (s.base+d)+1) 1),da:=lb s.da (s.base+d) (some (.qq sz [cs])),av:=lb s.av (s.base+d) (s.av (s.base+d)+1)} K):
  l5 P (⟨some d,.a09 1 sz z [(0,sz,.t t)],none,af⟩::r) s K:=by
 have hp:patch (z.map C.d) 0 cs=cs:=by
  unfold patch;rw[alz,N1,Sk (by simp;omega),y0]
 have hf:Ly (((j5 1 z).flatten).map C.d) [(0,sz,cs)]=some cs:=by
  simp only[Ly,j5,aut,aI8,y0,ag];rw[bm ⟨hl,by omega⟩,hp]
 have ht:cs.take sz=cs:=by rw[←hl];exact dt
 rw[aru];simp only[jv.og,Jk,afx,hc,hf,h1,dj,j6,Et,lk.app,PS.ta,PS.put,chunks,ht];exact h
theorem ai5{d sz b yid yver:Nat}{x y:me}{dd ys:List (List C)}(hx:aEx s (s.base+d) sz dd (x.ev s))(hy:y.ev s= .ref yid yver ys.length)(hyv:s.av yid=yver)(hyb:s.da yid=some (.qq sz ys))
  (Ae:(ys.all fun e=>e.all (C.one s))=true)(hb:(dd.length+ys.length)*b≤2^47)(hne:ys≠[])(h:∀s',aC2 s s' d (s.base+d) sz (dd++ys)→l5 P r s' K):
  l5 P (⟨some d,.app sz b x y,none,af⟩::r) s K:=by
 subst hyv;have hl:0<ys.length:=a1i.2 hne
 have e1:qm s (.ref yid (s.av yid) ys.length)=none:=by simp[qm,PS.dd,hyb]
 have e2:Yr s (.ref yid (s.av yid) ys.length)=some (ys,some sz):=by simp[Yr,PS.elc,hyb]
 rw[Lo];simp only[jv.og,hy,e1,Q5,e2,j6];rw[bm ⟨trivial,Ae⟩];rcases hx with ⟨rfl,hx⟩|⟨asm,hx,hblk⟩
 ·simp only[hx];rw[al (by omega),bm (by simpa using hb),Et];refine h _ ⟨?_,?_,?_,?_,rfl,rfl⟩
  ·simp[lk.app,PS.put,PS.ta,ck]
  ·simp[lk.app,PS.put,PS.ta]
  ·intro j hj;simp[lk.app,PS.put,PS.ta,gu _ _ _ _ hj]
  simp[lk.app,PS.put,PS.ta,ck]
 have he:s.elc (s.base+d) (s.av (s.base+d))=some (sz,dd):=by
  unfold PS.elc;rw[bm rfl,hblk]
 simp only[hx,he];rw[bm ⟨trivial,trivial,hb⟩,Et];refine h _ ⟨?_,?_,?_,?_,rfl,rfl⟩
 ·simp[lk.app,PS.put,PS.ta]
 ·simp[lk.app,PS.put,PS.ta]
 ·intro j hj;simp[lk.app,PS.put,PS.ta]
 simp[lk.app,PS.put,PS.ta]
end
theorem Od.mono{m m':Mem}{b:Nat}{n:Nd}{e:List C}(h:Od m b n e)(h1:m'.da (b+45)=m.da (b+45))(h2:m'.av (b+45)=m.av (b+45))(h3:m'.da (b+35)=m.da (b+35))(h4:m'.av (b+35)=m.av (b+35)):Od m' b n e:=by
 obtain⟨cV,cI,rfl,k1,k2⟩:=h;exact⟨cV,cI,rfl,k1.mono h1 h2,k2.mono h3 h4⟩
theorem Od.awo{s:PS}{m:Mem}{b:Nat}{n:Nd}{e:List C}(h:Od m b n e)(hm:s.mem=m):e.all (C.one s)=true:=by
 subst hm;obtain⟨cV,cI,rfl,k1,k2⟩:=h;simp only[Vi,aJ5,k1.one,k2.one,Gy];rfl
theorem Od.len{m:Mem}{b:Nat}{n:Nd}{e:List C}(h:Od m b n e):e.length=5:=by
 obtain⟨cV,cI,rfl,_⟩:=h;rfl
def Ue(m:Mem)(b:Nat)(l:List Nd)(cells:List (List C)):Prop:=cells.length=l.length∧∀k,k<l.length→Od m (b+64+64*k) (l.getD k n0) (cells.getD k [])
def a0h(b n:Nat)(i:Nat):Prop:=i=b+19∨∃k,k<n∧(i=b+64+64*k+45∨i=b+64+64*k+35)
def aC0(m:Mem)(b:Nat)(l:List Nd)(v:V):Prop:=∃cells,Ue m b l cells∧((l=[]∧v= .d .cq)∨(l≠[]∧v= .ref (b+19) (m.av (b+19)) l.length∧m.da (b+19)=some (.qq 5 cells)))
def aC1(m:Mem)(b:Nat)(l:List Nd)(m':Mem)(r:V):Prop:=Ext m b (a0h b l.length) m'∧aC0 m' b l r
section
variable{P:Program}(A:Pr4 P)
def auq(m:Mem)(b:Nat)(l:List Nd)(i:Nat)(s':PS):Prop:=
 s'.base=b∧(∀j,j<b→s'.da j=m.da j∧s'.av j=m.av j∧s'.mp j=m.mp j)∧(∀j,m.av j≤s'.av j)∧(∀j,b+64≤j→¬a0h b i j→s'.da j=none)∧(∀j,b≤j→s'.mp j=none)∧(∀j,b+64≤j→∀x,s'.da j=some x→M4 s'.mem x)∧
 ∃cells,Ue s'.mem b (l.take i) cells∧aEx s' (b+19) 5 cells (s'.tmp 5)∧(i=0→s'.da (b+19)=none)
theorem amq(l:List Nd)(h:l.length≤2^20)(hn:∀n∈l,n.f.vs.length≤2^40∧n.f.ls.length≤2^30∧(∀q∈n.f.ls,q.length≤2^40)∧n.ins.length≤2^40)(s:PS)(b:Nat)(mh:w8 s.mem b):
  D0 P A.dr s [.d (l7 l),.d (.nu A.jg [])] (aC1 s.mem b l):=by
 refine U2 A.mo A.Kv (by simp) b fun cx=>?_;show ko P yl _ _;simp only[yl,enter,l7,go_sem,aa,reduceCtorEq];refine r9 (fun s'=>auq s.mem b l l.length s') ?_ ?_
 ·refine fh l.length (fun i s'=>auq s.mem b l i s'∧s'.tmp 1= .d (.nu A.jg [])∧s'.tmp 8= .d (.ft 5 (l.map wz))∧s'.tmp 9= .d (.int ab l.length)∧s'.tmp 10= .d (.int ab i)) ?_ ?_
  ·simp only[auq,go_sem,aa,PS.mem,ag];refine⟨fun j _=>trivial,fun j=>trivial,fun j hj _=>(mh j (by omega)).1,fun j hj=>(mh j hj).2,fun j hj x hx=>?_,[],⟨rfl,fun k hk=>absurd hk (by simp)⟩,.inl ⟨rfl,rfl⟩,fun _=>(mh _ (by omega)).1⟩;rw[show s.da j=none from(mh j (by omega)).1]at hx;cases hx
  rintro i s' hi ⟨⟨eb,low,vle,axp,hmp,hwf,cells,hC,acc,h19⟩,f1,f8,f9,f10⟩;by_cases hlt:(i:Int)<l.length
  ·have df:i<l.length:=by omega
   have wi:=cu ((i:Int)+1) (by omega) (by omega);have hg:=Fe df
   have hm:l.getD i n0∈l:=by
    have e:l.getD i n0=l[i]:=by simp[cd,df]
    rw[e];exact cy _
   obtain⟨k1,k2,k3,k4⟩:=hn _ hm
   have htk:l.take (i+1)=l.take i++[l.getD i n0]:=by
    rw[fm];simp[df,cd]
   generalize hnn:l.getD i n0=n at*
   simp only[x6,lj,nr]at hg;simp only[go_sem,aa,ae,reduceCtorEq,eb,f1,f8,f9,f10,hlt,hg,bp,aq,a6b,aeo];refine kg (avw A n k1 k2 k3 k4 _ (b+64+64*i) ?_) ?_
   ·intro j hj;simp only[PS.mem,ak];rw[al (by omega),al (by omega)];refine⟨axp j (by omega) ?_,hmp j (by omega)⟩;rintro(h1|⟨k,hk,h1|h1⟩)<;>omega
   rintro m1 r1 ⟨⟨aBp,aEf,aH0,aEa,ewf⟩,e,rfl,hN⟩;simp only[PS.mem,ak]at aBp aEa
   have A1:∀j,j<b+64+64*i→j≠b+7→m1.da j=s'.da j∧m1.av j=s'.av j∧m1.mp j=s'.mp j:=by
    intro j hj hne;have:=aBp j hj;simp only[al hne]at this;exact this
   have A4:∀j,s'.av j≤m1.av j:=by
    intro j;have:=aEa j;split at this
    ·rename_i h;subst h;omega
    exact this
   have h5:=hN.len;have B19:=A1 (b+19) (by omega) (by omega);refine awu (cs:=e) ?_ h5 ?_ ?_ ?_
   ·simp only[a4a,ck];exact a9m
   ·rfl
   ·exact hN.awo rfl
   simp only[a4a,PS.j0];refine ai5 (dd:=cells) (ys:=[e]) (yid:=b+18) (yver:=m1.av (b+18)+1) ?_ (by simp[ak,afx]) (by simp[ak]) (by simp[ak]) ?_ ?_ (by simp) ?_
   ·simp only[afx,ak,aa,ee];rcases acc with ⟨a1,a2⟩|⟨a1,a2,a3⟩
    ·exact .inl ⟨a1,a2⟩
    exact .inr ⟨a1,by simp[ak,a2,B19.2.1],by simp[ak,B19.1,a3]⟩
   ·simp only[Vi,aJ5,Gy];refine Od.awo (m:=⟨lb m1.da (b+18) (some (.qq 5 [e])),lb m1.av (b+18) (m1.av (b+18)+1),m1.mp⟩) (hN.mono ?_ ?_ ?_ ?_) rfl<;>simp only[ak]<;>rw[al (by omega)]
   ·have:=hC.1;simp only[dw]at this;simp only[ca,ed];omega
   intro s3 g
   have hb3:∀j,s3.da j=if j=b+19 then some (.qq 5 (cells++[e]))else if j=b+18 then some (.qq 5 [e])else m1.da j:=by
    intro j;rw[g.da];simp only[ak]
   have hv3:∀j,j≠b+19→s3.av j=if j=b+18 then m1.av (b+18)+1 else m1.av j:=by
    intro j hj;rw[g.av j hj];simp only[ak]
   have hv4:m1.av (b+19)≤s3.av (b+19):=by have:=g.aCi;simpa[ak]using this
   have hm3:s3.mp=m1.mp:=g.mp
   have e19:(cells++[e]).length=i+1:=by
    have:=hC.1;simp only[dw]at this;simp only[db,ca,ed];omega
   have Hb:∀j,j<b+64+64*i→j≠b+7→j≠b+18→j≠b+19→s3.da j=s'.da j∧s3.av j=s'.av j:=by
    intro j h1 h2 h3 h4;rw[hb3,hv3 j h4,al h4,al h3,al h3];exact⟨(A1 j h1 h2).1,(A1 j h1 h2).2.1⟩
   have Hn:Ue s3.mem b (l.take (i+1)) (cells++[e]):=by
    have hcl:cells.length=i:=by
     have:=hC.1;simp only[dw]at this;omega
    have htl:(l.take i).length=i:=by simp only[dw];omega
    refine⟨by rw[e19,htk];simp only[db,ca,ed,htl],fun k hk=>?_⟩;rw[htk]at hk⊢;simp only[db,ca,ed,htl]at hk;rcases Vz.1 hk with hk'|rfl
    ·have g1:(l.take i++[n]).getD k n0=(l.take i).getD k n0:=by
      simp only[D2];rw[l8 (by omega)]
     have g2:(cells++[e]).getD k []=cells.getD k []:=by
      simp only[D2];rw[l8 (by omega)]
     rw[g1,g2];obtain⟨q1,q2⟩:=Hb (b+64+64*k+45) (by omega) (by omega) (by omega) (by omega);obtain⟨q3,q4⟩:=Hb (b+64+64*k+35) (by omega) (by omega) (by omega) (by omega);exact(hC.2 k (by omega)).mono q1 q2 q3 q4
    have g1:(l.take k++[n]).getD k n0=n:=by
     simp only[D2];rw[mb (by omega),htl,Uz];rfl
    have g2:(cells++[e]).getD k []=e:=by
     simp only[D2];rw[mb (by omega),hcl,Uz];rfl
    rw[g1,g2];refine hN.mono ?_ ?_ ?_ ?_
    ·show s3.da _=_;rw[hb3,al (by omega),al (by omega)]
    ·show s3.av _=_;rw[hv3 _ (by omega),al (by omega)]
    ·show s3.da _=_;rw[hb3,al (by omega),al (by omega)]
    show s3.av _=_;rw[hv3 _ (by omega),al (by omega)]
   have Hv:∀j,m1.av j≤s3.av j:=by
    intro j;by_cases hj:j=b+19
    ·subst hj;exact hv4
    rw[hv3 j hj];split
    ·rename_i h;subst h;omega
    exact ay _
   simp only[auq,go_sem,aa,reduceCtorEq,g.tmp,g.base,f1,f8,f9,f10,wi,df]
   refine⟨⟨fun j hj=>?_,fun j=>ie (vle j) (ie (A4 j) (Hv j)),fun j hj hk=>?_,fun j hj=>?_,fun j hj x hx=>?_,cells++[e],Hn,.inr ⟨by simp,?_,by rw[hb3,bm rfl]⟩,fun h0=>by first|cases h0|omega|simp at h0⟩,by rw[Sl];rfl⟩
   ·obtain⟨q1,q2⟩:=Hb j (by omega) (by omega) (by omega) (by omega);rw[q1,q2,hm3,(A1 j (by omega) (by omega)).2.2];exact low j hj
   ·rw[hb3,al (by omega),al (by omega)];rcases V0 j (b+64+64*i)with hj2|hj2
    ·rw[(A1 j hj2 (by omega)).1];refine axp j hj fun hk'=>hk ?_;rcases hk' with h1|⟨k,h1,h2⟩
     ·exact .inl h1
     exact .inr ⟨k,by omega,h2⟩
    refine aEf j hj2 fun h1=>hk (.inr ⟨i,by omega,h1⟩)
   ·rw[hm3];rcases V0 j (b+64+64*i)with hj2|hj2
    ·by_cases h7:j=b+7
     ·subst h7;have:=(aBp (b+7) (by omega)).2.2;rw[this];exact hmp _ hj
     rw[(A1 j hj2 h7).2.2];exact hmp j hj
    exact aH0 j hj2
   ·rw[hb3,al (by omega),al (by omega)]at hx;rcases V0 j (b+64+64*i)with hj2|hj2
    ·rw[(A1 j hj2 (by omega)).1]at hx;exact(hwf j hj x hx).mono fun q=>ie (A4 q) (Hv q)
    exact(ewf j hj2 x hx).mono Hv
   simp only[]
  have:i=l.length:=by omega
  subst this;simp only[auq,go_sem,aa,reduceCtorEq,PS.mem,eb,f9,f10,hlt];exact⟨low,vle,axp,hmp,hwf,cells,hC,acc,h19⟩
 rintro s' ⟨eb,low,vle,axp,hmp,hwf,cells,hC,acc,h19⟩;simp only[go_sem,reduceCtorEq,PS.mem,eb];rw[dt]at hC
 have hK:∀i,a0h b l.length i→∀x,s'.da i=some x→M4 s'.mem x:=by
  rintro i (rfl|⟨k,hk,h1⟩) x hx
  ·rcases acc with ⟨a1,a2⟩|⟨a1,a2,a3⟩
   ·have h0:l.length=0:=by rw[←hC.1,a1];rfl
    rw[h19 h0]at hx;cases hx
   rw[a3]at hx
   injection hx with hx
   subst hx;intro e he;obtain⟨k,hk,rfl⟩:=i6.1 he;have:=(hC.2 k (by rw[←hC.1];exact hk)).wf
   have e1:cells.getD k []=cells[k]:=by simp[cd,hk]
   rw[e1]at this;exact this
  exact hwf i (by omega) x hx
 have hr:Gu s'.mem (s'.tmp 5):=by
  rcases acc with ⟨a1,a2⟩|⟨a1,a2,a3⟩
  ·rw[a2];trivial
  rw[a2];exact ay _
 obtain⟨k1,k2⟩:=Tk (m:=s.mem) (s:={tmp:=lb (lb s'.tmp 21 (s'.tmp 5)) 4 (s'.tmp 5),da:=s'.da,av:=s'.av,mp:=s'.mp,base:=b,ctx:=s'.ctx}) (b:=b) (K:=a0h b l.length) (r:=s'.tmp 5) vle low hK hr;refine⟨_,_,⟨k2,cells,⟨hC.1,fun k hk=>?_⟩,?_⟩,rfl,k1⟩
 ·exact(hC.2 k hk).mono (by simp only[Mem.only];rw[bm (.inr (.inr ⟨k,hk,.inl rfl⟩))];rfl) rfl (by simp only[Mem.only];rw[bm (.inr (.inr ⟨k,hk,.inr rfl⟩))];rfl) rfl
 rcases acc with ⟨a1,a2⟩|⟨a1,a2,a3⟩
 ·have h0:l=[]:=ix (by rw[←hC.1,a1];rfl);exact .inl ⟨h0,a2⟩
 refine .inr ⟨fun h0=>a1 (ix (by rw[hC.1,h0];rfl)),by rw[a2,hC.1];rfl,?_⟩;simp only[Mem.only];rw[bm (.inr (.inl rfl))];exact a3
end
def Ra(m:Mem)(b:Nat)(t:Tr)(cs:List C):Prop:=∃cP cN cells,cs=[cP,cN]∧Own m (b+15) 2 (t.ps.map tx) cP∧Ue m (b+32) t.ns cells∧
 ((t.ns=[]∧cN= .d .cq)∨(t.ns≠[]∧cN= .ref (b+51) (m.av (b+51)) t.ns.length∧m.da (b+51)=some (.qq 5 cells)))
def azk(b n:Nat)(i:Nat):Prop:=i=b+15∨a0h (b+32) n i
def azo(m:Mem)(b:Nat)(t:Tr)(m':Mem)(r:V):Prop:=Ext m b (azk b t.ns.length) m'∧∃cs,r=mkv true cs∧Ra m' b t cs
theorem atu{m m2:Mem}{s:PS}{b:Nat}{t:Tr}{cP cN:C}{cells:List (List C)}(ht:s.tmp 2= .ic (b+2) (s.av (b+2)) 0)(hb:s.da (b+2)=some (.loc [cP,cN]))(hx:Ext m (b+32) (a0h (b+32) t.ns.length) m2)
  (h1:∀i,i≠b+2→s.da i=m2.da i)(h2:s.av=m2.av)(h3:s.mp=m2.mp)(oP:Own s.mem (b+15) 2 (t.ps.map tx) cP)(oN:Ue m2 (b+32) t.ns cells)
  (hN:(t.ns=[]∧cN= .d .cq)∨(t.ns≠[]∧cN= .ref (b+51) (m2.av (b+51)) t.ns.length∧m2.da (b+51)=some (.qq 5 cells)))
  {m0:Mem}(a5a:∀i,i<b→m.da i=m0.da i∧m.av i=m0.av i∧m.mp i=m0.mp i)(zc:∀i,m0.av i≤m.av i)(h15:∀x,m.da (b+15)=some x→M4 m2 x):
  ∃m' r,azo m0 b t m' r∧sv s [.cell 2 2 true]=some r∧Leaves m0 s m' r:=by
 have e2:s.mem.av=m2.av:=h2;have hC:Ue s.mem (b+32) t.ns cells:=⟨oN.1,fun k hk=>(oN.2 k hk).mono (h1 _ (by omega)) (by rw[e2]) (h1 _ (by omega)) (by rw[e2])⟩
 have hN':(t.ns=[]∧cN= .d .cq)∨(t.ns≠[]∧cN= .ref (b+51) (s.mem.av (b+51)) t.ns.length∧s.mem.da (b+51)=some (.qq 5 cells)):=by
  rcases hN with h|⟨q0,q1,q2⟩
  ·exact .inl h
  exact .inr ⟨q0,by rw[e2];exact q1,by rw[←q2];exact h1 _ (by omega)⟩
 have wfx:∀x,M4 m2 x→M4 s.mem x:=fun x hx=>hx.mono fun i=>by rw[e2];exact ay _
 obtain⟨k1,k2⟩:=Tk (m:=m0) (s:=s) (b:=b) (K:=azk b t.ns.length) (r:=mkv true [cP,cN]) (fun i=>by
   rw[h2];exact ie (zc i) (hx.av i)) (fun i hi=>by
   rw[h1 i (by omega),h2,h3,(hx.low i (by omega)).1,(hx.low i (by omega)).2.1,(hx.low i (by omega)).2.2]
   exact a5a i hi) (fun i hi x hxx=>by
   rcases hi with rfl|hi
   ·rw[h1 _ (by omega),(hx.low (b+15) (by omega)).1]at hxx;exact wfx _ (h15 x hxx)
   ·have hge:b+32≤i:=by rcases hi with rfl|⟨k,hk,rfl|rfl⟩<;>omega
    rw[h1 _ (by omega)]at hxx
    exact wfx _ (hx.wf i hge x hxx)) (Zl fun c hc=>by
   simp only[dq,kh,or_false]at hc;rcases hc with rfl|rfl
   ·exact oP.wf
   rcases hN' with ⟨_,rfl⟩|⟨_,rfl,_⟩
   ·trivial
   exact ay _)
 refine⟨_,_,⟨k2,_,rfl,cP,cN,cells,rfl,a4f oP (.inl rfl),⟨hC.1,fun k hk=>(hC.2 k hk).mono ?_ rfl ?_ rfl⟩,?_⟩,?_,k1⟩
 ·simp only[Mem.only];rw[bm (.inr (.inr (.inr ⟨k,hk,.inl rfl⟩)))]
 ·simp only[Mem.only];rw[bm (.inr (.inr (.inr ⟨k,hk,.inr rfl⟩)))]
 ·rcases hN' with h|⟨q0,q1,q2⟩
  ·exact .inl h
  refine .inr ⟨q0,q1,?_⟩;simp only[Mem.only];rw[bm (.inr (.inr (.inl rfl)))];exact q2
 simp only[sv,Ac,ht,Br,PS.cs,hb,dj];rfl
section
variable{P:Program}(A:Pr4 P)
theorem amt(t:Tr)(h:Mid t)(s:PS)(b:Nat)(mh:w8 s.mem b):D0 P A.la s [.d (.agg (r8 t))] (azo s.mem b t):=by
 refine U2 A.mo A.Yh (by simp) b fun cx=>?_;show ko P (Jd A.fc A.dr A.jg) _ _;obtain⟨h1,h2,h3⟩:=h
 have hns:∀n∈t.ns,n.f.vs.length≤2^40∧n.f.ls.length≤2^30∧(∀q∈n.f.ls,q.length≤2^40)∧n.ins.length≤2^40:=fun n hn=>by
  obtain⟨k1,k2,k3,k4⟩:=h3 n hn
  exact⟨by omega,by omega,fun q hq=>by have:=k3 q hq;omega,by omega⟩
 have hcl:=fun s b=>a3e (P:=P) A.mo (sz:=2) (by_:=24) (z:=[.str ⟨#[]⟩,.int ab 0]) A.Es (dd:=t.ps.map tx) (by simp[tx,D.one]) (by simp only[ag];omega) s b;simp only[Jd,enter,r8,jn,agz,go_sem,aa,ae,ah]
 repeat' (refine aLb ?_ ?_)
 all_goals
  refine kg (hcl _ (b+10)) ?_;rintro m1 r1 (⟨e1,rfl,rfl⟩|⟨rfl,rfl⟩)
 all_goals
  simp only[go_sem,aa,ae,PS.j0,PS.mem,Mem.put,qj,ag];refine kg (amq A t.ns (by omega) hns _ (b+32) ?_) ?_;intro i hi;simp only[PS.mem,ak]
  (repeat' rw[al (by omega)])
  exact mh i (by omega)
 all_goals
  rintro m2 r2 ⟨hx,cells,hC,hv⟩;have B2:=hx.low (b+2) (by omega);have B15:=hx.low (b+15) (by omega);simp only[PS.mem,ak,s7,aa,reduceIte]at B2 B15;obtain⟨B2b,B2v,B2m⟩:=B2;obtain⟨aC5,aC4,aIn⟩:=B15;have hfb:=(mh (b+15) (by omega)).1;simp only[PS.mem]at hfb;rcases hv with ⟨q0,rfl⟩|⟨q0,rfl,q1⟩
 all_goals
  have aE0:=hC.1;simp only[go_sem,aa,ae,ah,reduceCtorEq,PS.j0,qj,gq,ag,B2b,B2v,aC5,aC4]
  try simp only[go_sem,aa,ae,ah,reduceCtorEq,gq,ag,B2b,B2v,aC5,aC4,q1,aE0]
  refine atu (cells:=cells) ?_ (ck _ _ _) hx (fun i hi=>gu _ _ _ _ hi) rfl rfl ?_ hC ?_ (fun i hi=>?_) (fun i=>?_) (fun x hx2=>?_)
  ·simp[ak,B2v]
  ·first|exact .inl ⟨e1,rfl⟩|exact .inr ⟨by simp[PS.mem,aC4],by simp[PS.mem,ak,aC5]⟩
  ·first|exact .inl ⟨q0,rfl⟩|exact .inr ⟨q0,rfl,q1⟩
  ·simp only[PS.mem,ak];refine⟨?_,?_,trivial⟩<;>(repeat' rw[al (by omega)])
  ·simp only[PS.mem,ak]
   (repeat' split)<;>first|omega|(subst_vars;omega)
  simp only[PS.mem,ak,s7,aa,reduceIte,hfb]at hx2
  first|(cases hx2;done)|(injection hx2 with hx2;subst hx2;trivial)
end
def ach(sz by_:Nat)(z:List D):di:=
 (.seq (
 .region [⟨some 6,.j7 (.c .cq),none,[]⟩] false []) (
 (.seq (
  .region [⟨some 8,.j7 (.t 0),none,[]⟩,
   ⟨some 9,.j7 (.t 1),none,[]⟩,
   ⟨some 10,.j7 (.t 2),none,[]⟩,
   ⟨some 11,.j7 (.t 0),none,[]⟩,
   ⟨some 12,.len .ft (.t 11),none,[]⟩,
   ⟨some 13,.Qb sz (.t 8) (some (.t 9)) (some (.t 10)) (some (.t 12)),none,[]⟩] false []) (
  (.seq (
  (.seq (
   .region [⟨some 14,.j7 (.t 1),none,[]⟩,
    ⟨some 15,.j7 (.t 2),none,[]⟩,
    ⟨some 16,.bin .eql (.t 14) (.t 15),none,[]⟩] false []) (
   (.cond (.t 16) (
   (.seq (
    .region [⟨some 17,.j7 (.t 0),none,[]⟩,
     ⟨some 6,.j7 (.t 17),none,[]⟩] false []) (
    .ret))) (
   .skip))))) (
  (.seq (
   .region [⟨some 18,.j7 (.t 0),none,[]⟩,
    ⟨some 19,.len .ft (.t 18),none,[]⟩,
    ⟨some 7,.j7 (.t 19),none,[]⟩] false []) (
   (.seq (
   .region [⟨some 20,.j7 (.t 0),none,[]⟩,
    ⟨some 21,.j7 (.t 1),none,[]⟩,
    ⟨some 22,.Qb sz (.t 20) none (some (.t 21)) none,none,[]⟩,
    ⟨some 23,.j7 (.t 0),none,[]⟩,
    ⟨some 24,.j7 (.t 2),none,[]⟩,
    ⟨some 25,.Qb sz (.t 23) (some (.t 24)) none none,none,[]⟩,
    ⟨some 26,.app sz by_ (.t 22) (.t 25),none,[]⟩,
    ⟨some 0,.j7 (.t 26),none,[]⟩] true []) (
   (.seq (
    .region [⟨some 27,.j7 (.t 0),none,[]⟩,
     ⟨some 28,.j7 (.t 0),none,[]⟩,
     ⟨some 29,.len .ft (.t 28),none,[]⟩,
     ⟨some 30,.j7 (.t 7),none,[]⟩,
     ⟨some 31,.Qb sz (.t 27) (some (.t 29)) (some (.t 30)) none,none,[]⟩,
     ⟨none,.clr z (.t 31),none,[]⟩] false []) (
    (.seq (
    .region [⟨some 32,.trim (.t 0),none,[]⟩,
     ⟨some 6,.j7 (.t 32),none,[]⟩] false []) (
    .ret))))))))))))))
section
variable{P:Program}
theorem ajm(hm:P.follows .mixedOrders=true){f:Nat}{sz by_:Nat}{z:List D}(hf:ew P f {imm:=[],uu:=[],ce:=[],cf:=[],cr:=[],kp:=[13,22,25,31,32],cv:=[],dyn:=[],od:=[]}=some (ach sz by_ z,[.tmp 6],33))
  {dd:List (List D)}{i:Nat}(hi:i<dd.length)(hz:z.length=sz)(hz1:z.all D.one=true)(ho:∀e∈dd,e.all D.one=true)(hl:dd.length≤2^30){m:Mem}{id av:Nat}(hb:m.da id=some (.arr sz dd))(hv:m.av id=av)(b:Nat):
  qz P f m [.ref id av dd.length,.d (.int ab i),.d (.int ab ((i:Int)+1))] (m.put id (av+1) (.arr sz (dd.eraseIdx i))) (.ref id (av+1) (dd.length-1)):=by
 subst hv;refine mq hm hf (by simp) b (fun c=>?_) (Mem.La (by omega)) Mem.Pu (fun i es hi=> .inl hi) (by simp[Gu,Mem.put,ck]);show ko P (ach sz by_ z) (Bq m [.tmp 6] _ _) _
 have h0:0<dd.length:=by omega
 have hj:((i:Int)+1).toNat=i+1:=by omega
 have hj0:(0:Int)≤(i:Int)+1:=by omega
 have hne:((i:Int)==(i:Int)+1)=false:=by rw[beq_eq_false_iff_ne];omega
 have h1:i+1≤dd.length:=by omega
 have h2:i≤i+1:=by omega
 have h3:i≤dd.length:=by omega
 have Ae:(((dd.drop (i+1)).take (dd.length-(i+1))).all fun e=>e.all D.one)=true:=cz.2 fun e he=>ho e (av2 (Ix he));have hT:aL9 (dd.length-(i+1)) (aL7 (i+1) dd)=aL7 (i+1) dd:=tz (by simp);rw[hT]at Ae
 have hE:i+1+(dd.length-(i+1))=dd.length:=by omega
 have hF:min i dd.length=i:=by omega
 have hG:dd.length-(dd.length-1)=1:=by omega
 have hI:dd.length-1+1=dd.length:=by omega
 have hH:min (dd.length-1) dd.length=dd.length-1:=by omega
 have hX:(dd.take i++dd.drop (i+1)).length=dd.length-1:=by simp only[db,dw,uv];omega
 have hU:∀Y:List (List D),aL9 (dd.length-1) (dd.take i++dd.drop (i+1)++Y)=dd.eraseIdx i:=fun Y=>by
  rw[aJ0 hX,xy]
 have hW:∀Y Z:List (List D),aL9 (dd.length-1) (dd.eraseIdx i++Y++Z)=dd.eraseIdx i:=fun Y Z=>by
  rw[oq];exact aJ0 (by rw[xy];exact hX)
 have hLE:(dd.eraseIdx i).length=dd.length-1:=by rw[xy];exact hX
 have hA:i+1-i=1:=by omega
 have hB:dd.length-(i+1)+(i+1)=dd.length:=by omega
 have hC2:i+(dd.length-(i+1))=dd.length-1:=by omega
 have hD:dd.length-1≤dd.length:=by omega
 simp only[ach,enter,go_sem,aa,reduceCtorEq,dh,hb,qm,bp,aq,hj,hj0,hne,h0,h1,h2,h3,Lo,Ae,B.Cz,imp_self,implies_true,a3g,Uy,hA,hC2,hD,dw,uv,db,ay,hT,hE,hF,hG,hI,sv,Ac,hz,hz1,Uz,Bw,hU,hW,true_and,hLE];intro j;simp only[Mem.put,PS.mem,ak];by_cases hj:j=id
 ·subst hj;simp
 simp[hj]
end
structure WN where
 n:Nd
 x:D
 y:D
 hx:Wk x (x6 n.f.vs)
 hy:Wk y (nr n.ins)
 ox:x.one=true
 oy:y.one=true
def Fh(z:WN):List D:=[.str z.n.n,.int ab z.n.f.k,z.x,lj z.n.f.ls,z.y]
theorem azx(z:WN):(Fh z).length=(wz z.n).length∧∀(j:Nat) (x y:D),(Fh z)[j]? =some x→(wz z.n)[j]? =some y→Wk x y:=by
 refine⟨rfl,fun j x y hx hy=>?_⟩
 match j with
 |0=>simp[Fh,wz]at hx hy;subst hx hy;exact Wk.refl _
 |1=>simp[Fh,wz]at hx hy;subst hx hy;exact Wk.refl _
 |2=>simp[Fh,wz]at hx hy;subst hx hy;exact z.hx
 |3=>simp[Fh,wz]at hx hy;subst hx hy;exact Wk.refl _
 |4=>simp[Fh,wz]at hx hy;subst hx hy;exact z.hy
 |j+5=>simp[Fh]at hx
theorem Xb(zs:List WN):Wk (.ft 5 (zs.map Fh)) (l7 (zs.map WN.n)):=by
 unfold l7;refine Wk.ft (by simp) fun i a b ha hb=>?_;simp only[aF4,cw,ao]at ha hb;obtain⟨z,hz,rfl⟩:=ha;obtain⟨z',hz',rfl⟩:=hb;rw[hz]at hz'
 injection hz' with hz'
 subst hz';exact azx z
theorem M6{x y x' y':D}(h1:Wk x x')(h2:Wk y y'):Wk (.agg [x,y]) (.agg [x',y']):=by
 refine Wk.agg rfl fun i a b ha hb=>?_
 match i with
 |0=>simp at ha hb;subst ha hb;exact h1
 |1=>simp at ha hb;subst ha hb;exact h2
 |i+2=>simp at ha
structure Edt where
 k:Int
 n:ByteArray
 t:ByteArray
 v:Int
 nd:Nd
def Cx(e:Edt):List D:=[.int ab e.k,.str e.n,.str e.t,.int ab e.v,.str e.nd.n,.int ab e.nd.f.k,x6 e.nd.f.vs,lj e.nd.f.ls,nr e.nd.ins]
def Sb(m:Mem)(u lo:Nat)(ps:List Pm)(zs:List WN):Prop:=
 ∃pid tg cP cN,lo≤pid∧lo≤tg∧pid≠tg∧m.da u=some (.loc [cP,cN])∧Own m pid 2 (ps.map tx) cP∧Own m tg 5 (zs.map Fh) cN
def KOk(P:Program)(f:Nat)(e:Edt)(ps ps':List Pm)(zs zs':List WN)(code:Int):Prop:=
 ∀(m:Mem) (u lo b:Nat),Sb m u lo ps zs→u<lo→lo≤b→w8 m b→∃m',qz P f m [.ic u (m.av u) 0,.d (.agg (Cx e))] m' (.d (.int ab code))∧Sb m' u lo ps' zs'∧
  (∀j,j<lo→j≠u→m'.da j=m.da j∧m'.av j=m.av j)∧m'.av u=m.av u∧m'.mp=m.mp∧w8 m' (b+64)
theorem w8.mono{m:Mem}{b c:Nat}(h:w8 m b)(hc:b≤c):w8 m c:=fun i hi=>h i (by omega)
theorem w8.lt{m:Mem}{b i:Nat}{x:B}(h:w8 m b)(hx:m.da i=some x):i<b:=by
 rcases V0 i b with h'|h'
 ·exact h'
 rw[(h i h').1]at hx;cases hx
section
variable{P:Program}(A:Pr P)
theorem ads{ps:List Pm}{ns:List Nd}(s:ByteArray)(hl:ps.length≤2^50){x y:D}(hx:Wk x (jn ps))(hy:Wk y (l7 ns)):iq P A.xx [.agg [x,y],.str s] (.int ab (Di ⟨ps,ns⟩ s)):=by
 refine(avv A ⟨ps,ns⟩ s hl).args rfl fun i a b ha hb=>?_
 match i with
 |0=>simp at ha hb;subst ha hb;exact M6 hx hy
 |1=>simp at ha hb;subst ha hb;exact Wk.refl _
 |i+2=>simp at ha
theorem adr{ps:List Pm}{ns:List Nd}(s:ByteArray)(hl:ns.length≤2^50){x y:D}(hx:Wk x (jn ps))(hy:Wk y (l7 ns)):iq P A.xw [.agg [x,y],.str s] (.int ab (Ji ⟨ps,ns⟩ s)):=by
 refine(avu A ⟨ps,ns⟩ s hl).args rfl fun i a b ha hb=>?_
 match i with
 |0=>simp at ha hb;subst ha hb;exact M6 hx hy
 |1=>simp at ha hb;subst ha hb;exact Wk.refl _
 |i+2=>simp at ha
end
theorem Ir{m:Mem}{b j:Nat}(mh:w8 m b)(hj:b≤j){bk:Nat→Option B}{vr:Nat→Nat}{x:B}{v:Nat}(h1:bk=lb m.da j (some x))(h2:vr=lb m.av j v):Clean ⟨bk,vr,m.mp⟩ m:=by
 subst h1 h2;intro i;by_cases hi:i=j
 ·subst hi;exact⟨.inl (mh _ hj).1,.inl (mh _ hj).2⟩
 exact⟨.inr ⟨(gu _ _ _ _ hi).symm,(gu _ _ _ _ hi).symm⟩,.inr ⟨rfl,(gu _ _ _ _ hi).symm⟩⟩
theorem abf(t:Tr)(s:ByteArray):Di t s= -1∨∃k,k<t.ps.length∧Di t s=(k:Int):=by
 rcases Ry (fun i=>kf (t.ps.getD i p0).n s) t.ps.length with ⟨h,_⟩|⟨i,hi,h,_⟩
 ·exact .inl h
 exact .inr ⟨i,hi,h⟩
theorem abe(t:Tr)(s:ByteArray):Ji t s= -1∨∃k,k<t.ns.length∧Ji t s=(k:Int):=by
 rcases Ry (fun i=>kf (t.ns.getD i n0).n s) t.ns.length with ⟨h,_⟩|⟨i,hi,h,_⟩
 ·exact .inl h
 exact .inr ⟨i,hi,h⟩
section
variable{P:Program}(A:Pr4 P)
theorem axi(e:Edt)(ps:List Pm)(zs:List WN)(hl:ps.length≤2^50)(hI:Di ⟨ps,zs.map WN.n⟩ e.n= -1):KOk P A.ql e ps ps zs zs 4:=by
 intro m u lo b hT hu hlo mh;obtain⟨pid,tg,cP,cN,hp,hn,hne,hub,oP,oN⟩:=id hT;refine⟨m,?_,hT,fun _ _ _=>⟨rfl,rfl⟩,rfl,rfl,mh.mono (by omega)⟩;have hf3:=(mh (b+3) (by omega)).1;have Rs:=fun(x y:D) (hx:Wk x (jn ps)) (hy:Wk y (l7 (zs.map WN.n)))=>ads A.toPr e.n hl hx hy;rw[hI]at Rs
 have Pz:u≠b+3:=by omega
 refine mq A.mo A.Oy (by simp) b (fun c=>?_) (fun i=>ay _) (fun i b' va=> .inl va) (fun i es hi=> .inl hi) trivial;show ko P (rr A.xx) (Bq m [.tmp 4] _ _) _
 have hp3:∀{x},m.da pid=some x→pid≠b+3:=fun h=>by have:=mh.lt h;omega
 have hn3:∀{x},m.da tg=some x→tg≠b+3:=fun h=>by have:=mh.lt h;omega
 rcases oP with ⟨e1,rfl⟩|⟨rfl,hpb⟩<;>rcases oN with ⟨e2,rfl⟩|⟨rfl,hnb⟩
 ·simp only[rr,enter,Cx,go_sem,aa,ae,ah,reduceCtorEq,ez,hub,Pz];refine qw (ds:=[.agg [.cq,.cq],.str e.n]) ?_ (Rs _ _ (by rw[jc.1 e1];exact Wk.cq) (by rw[jc.1 e2];exact Wk.cq)) rfl ?_
  ·simp only[go_sem]
  simp only[go_sem,aa,dc,de,reduceCtorEq,PS.mem,sv,Ac];exact Ir mh (by omega) rfl rfl
 ·simp only[rr,enter,Cx,go_sem,aa,ae,ah,reduceCtorEq,ez,hub,Pz];refine qw (ds:=[.agg [.cq,.ft 5 (zs.map Fh)],.str e.n]) ?_ (Rs _ _ (by rw[jc.1 e1];exact Wk.cq) (Xb zs)) rfl ?_
  ·simp only[go_sem,nj,rb,hnb,hn3 hnb]
  simp only[go_sem,aa,dc,de,reduceCtorEq,PS.mem,ag,sv,Ac];exact Ir mh (by omega) rfl rfl
 ·simp only[rr,enter,Cx,go_sem,aa,ae,ah,reduceCtorEq,ez,hub,Pz];refine qw (ds:=[.agg [.ft 2 (ps.map tx),.cq],.str e.n]) ?_ (Rs _ _ (Wk.refl _) (by rw[jc.1 e2];exact Wk.cq)) rfl ?_
  ·simp only[go_sem,nj,rb,hpb,hp3 hpb]
  simp only[go_sem,aa,dc,de,reduceCtorEq,PS.mem,ag,sv,Ac];exact Ir mh (by omega) rfl rfl
 simp only[rr,enter,Cx,go_sem,aa,ae,ah,reduceCtorEq,ez,hub,Pz];refine qw (ds:=[.agg [.ft 2 (ps.map tx),.ft 5 (zs.map Fh)],.str e.n]) ?_ (Rs _ _ (Wk.refl _) (Xb zs)) rfl ?_
 ·simp only[go_sem,nj,rb,hnb,hpb,hn3 hnb,hp3 hpb]
 simp only[go_sem,aa,dc,de,reduceCtorEq,PS.mem,ag,sv,Ac];exact Ir mh (by omega) rfl rfl
theorem axg(e:Edt)(ps:List Pm)(zs:List WN)(hl:zs.length≤2^50)(hI:Ji ⟨ps,zs.map WN.n⟩ e.n= -1):KOk P A.qk e ps ps zs zs 4:=by
 intro m u lo b hT hu hlo mh;obtain⟨pid,tg,cP,cN,hp,hn,hne,hub,oP,oN⟩:=id hT;refine⟨m,?_,hT,fun _ _ _=>⟨rfl,rfl⟩,rfl,rfl,mh.mono (by omega)⟩;have hf3:=(mh (b+3) (by omega)).1;have Rs:=fun(x y:D) (hx:Wk x (jn ps)) (hy:Wk y (l7 (zs.map WN.n)))=>adr A.toPr e.n (by simpa using hl) hx hy;rw[hI]at Rs
 have Pz:u≠b+3:=by omega
 refine mq A.mo A.Ox (by simp) b (fun c=>?_) (fun i=>ay _) (fun i b' va=> .inl va) (fun i es hi=> .inl hi) trivial;show ko P (rp A.xw A.ng) (Bq m [.tmp 4] _ _) _
 have hp3:∀{x},m.da pid=some x→pid≠b+3:=fun h=>by have:=mh.lt h;omega
 have hn3:∀{x},m.da tg=some x→tg≠b+3:=fun h=>by have:=mh.lt h;omega
 rcases oP with ⟨e1,rfl⟩|⟨rfl,hpb⟩<;>rcases oN with ⟨e2,rfl⟩|⟨rfl,hnb⟩
 ·simp only[rp,enter,Cx,go_sem,aa,ae,ah,reduceCtorEq,ez,hub,Pz];refine qw (ds:=[.agg [.cq,.cq],.str e.n]) ?_ (Rs _ _ (by rw[jc.1 e1];exact Wk.cq) (by rw[jc.1 e2];exact Wk.cq)) rfl ?_
  ·simp only[go_sem]
  simp only[go_sem,aa,dc,de,reduceCtorEq,PS.mem,sv,Ac];exact Ir mh (by omega) rfl rfl
 ·simp only[rp,enter,Cx,go_sem,aa,ae,ah,reduceCtorEq,ez,hub,Pz];refine qw (ds:=[.agg [.cq,.ft 5 (zs.map Fh)],.str e.n]) ?_ (Rs _ _ (by rw[jc.1 e1];exact Wk.cq) (Xb zs)) rfl ?_
  ·simp only[go_sem,nj,rb,hnb,hn3 hnb]
  simp only[go_sem,aa,dc,de,reduceCtorEq,PS.mem,ag,sv,Ac];exact Ir mh (by omega) rfl rfl
 ·simp only[rp,enter,Cx,go_sem,aa,ae,ah,reduceCtorEq,ez,hub,Pz];refine qw (ds:=[.agg [.ft 2 (ps.map tx),.cq],.str e.n]) ?_ (Rs _ _ (Wk.refl _) (by rw[jc.1 e2];exact Wk.cq)) rfl ?_
  ·simp only[go_sem,nj,rb,hpb,hp3 hpb]
  simp only[go_sem,aa,dc,de,reduceCtorEq,PS.mem,ag,sv,Ac];exact Ir mh (by omega) rfl rfl
 simp only[rp,enter,Cx,go_sem,aa,ae,ah,reduceCtorEq,ez,hub,Pz];refine qw (ds:=[.agg [.ft 2 (ps.map tx),.ft 5 (zs.map Fh)],.str e.n]) ?_ (Rs _ _ (Wk.refl _) (Xb zs)) rfl ?_
 ·simp only[go_sem,nj,rb,hnb,hpb,hn3 hnb,hp3 hpb]
 simp only[go_sem,aa,dc,de,reduceCtorEq,PS.mem,ag,sv,Ac];exact Ir mh (by omega) rfl rfl
end
def a1r(ps:List Pm)(k:Nat)(v:Int):List Pm:=ps.set k ⟨(ps.getD k p0).n,v⟩
theorem Xj{α β:Type}(f:α→β)(l:List α)(k:Nat)(x:α):(l.map f).set k (f x)=(l.set k x).map f:=by
 rw[List.map_set]
theorem Own.ref{m:Mem}{id sz:Nat}{dd:List (List D)}{c:C}(h:Own m id sz dd c)(hne:dd≠[]):c= .ref id (m.av id) dd.length∧m.da id=some (.arr sz dd):=by
 rcases h with ⟨h1,_⟩|h
 ·exact absurd h1 hne
 exact h
theorem au0{ps:List Pm}{k:Nat}(h:k<ps.length):(ps.map tx)[k]? =some [.str (ps.getD k p0).n,.int ab (ps.getD k p0).v]:=by
 simp[cd,h,tx]
def Qo(m:Mem)(u pid w:Nat)(ps:List Pm)(cN:C):Mem:=(m.put pid w (.arr 2 (ps.map tx))).put u (m.av u) (.loc [.ref pid w ps.length,cN])
def Qn(m:Mem)(u tg w:Nat)(zs:List WN)(cP:C):Mem:=(m.put tg w (.arr 5 (zs.map Fh))).put u (m.av u) (.loc [cP,.ref tg w zs.length])
theorem aD5{P:Program}(hm:P.follows .mixedOrders=true){f:Nat}{an:Ann}{rc:di}{nt:Nat}(hf:ew P f an=some (rc,[.tmp 4],nt))(hnt:2≤nt){e:Edt}{code:Int}{ps':List Pm}{zs:List WN}{m:Mem}{u lo b pid tg w:Nat}{cN:C}
  (hu:u<lo)(hlo:lo≤b)(mh:w8 m b)(hp:lo≤pid)(hn:lo≤tg)(hne:pid≠tg)(oN:Own m tg 5 (zs.map Fh) cN)(hpb:pid<b+64)(hw:m.av pid≤w)
  (h:∀c,ko P rc (Bq m [.tmp 4] (Qo m u pid w ps' cN) (.d (.int ab code))) (enter m [.ic u (m.av u) 0,.d (.agg (Cx e))] b c)):
  ∃m',qz P f m [.ic u (m.av u) 0,.d (.agg (Cx e))] m' (.d (.int ab code))∧Sb m' u lo ps' zs∧(∀j,j<lo→j≠u→m'.da j=m.da j∧m'.av j=m.av j)∧m'.av u=m.av u∧m'.mp=m.mp∧w8 m' (b+64):=by
 have hup:u≠pid:=by omega
 have hun:u≠tg:=by omega
 have oN':Own (Qo m u pid w ps' cN) tg 5 (zs.map Fh) cN:=oN.mono (by simp only[Qo,Mem.put,ak];rw[al (by omega),al (by omega)]) (by simp only[Qo,Mem.put,ak];rw[al (by omega),al (by omega)])
 have hv:∀i,m.av i≤(Qo m u pid w ps' cN).av i:=fun i=>by
  simp only[Qo,Mem.put,ak]
  (repeat' split)<;>first|omega|(subst_vars;omega)
 refine⟨Qo m u pid w ps' cN,mq hm hf hnt b h hv (fun i x hx=>?_) (fun i es hi=> .inl hi) trivial,⟨pid,tg,.ref pid w ps'.length,cN,hp,hn,hne,by simp only[Qo,Mem.put,ck],.inr ⟨?_,?_⟩,oN'⟩,fun j h1 h2=>⟨?_,?_⟩,by simp only[Qo,Mem.put,ck],rfl,fun i hi=>⟨?_,(mh i (by omega)).2⟩⟩
 ·simp only[Qo,Mem.put,ak]at hx;split at hx
  ·injection hx with hx
   subst hx;refine .inr fun c hc=>?_;simp only[dq,kh,or_false]at hc;rcases hc with rfl|rfl
   ·show w≤(Qo m u pid w ps' cN).av pid;simp only[Qo,Mem.put,ak];rw[al (by omega),bm trivial];exact ay _
   exact oN'.wf
  split at hx
  ·injection hx with hx;subst hx;exact .inr trivial
  exact .inl hx
 ·simp only[Qo,Mem.put,ak,ag];rw[al (by omega),bm trivial]
 ·simp only[Qo,Mem.put,ak];rw[al (by omega),bm trivial]
 ·simp only[Qo,Mem.put,ak];rw[al h2,al (by omega)]
 ·simp only[Qo,Mem.put,ak];rw[al h2,al (by omega)]
 simp only[Qo,Mem.put,ak];rw[al (by omega),al (by omega)];exact(mh i (by omega)).1
theorem Aj{s m':Mem}{b:Nat}(a5a:∀i,i<b→m'.da i=s.da i∧m'.av i=s.av i∧m'.mp i=s.mp i)(aDt:∀i,b≤i→(m'.da i=none∨(m'.da i=s.da i∧m'.av i=s.av i))∧m'.mp i=none):Clean s m':=by
 intro i;rcases V0 i b with h|h
 ·obtain⟨h1,h2,h3⟩:=a5a i h;exact⟨.inr ⟨h1,h2⟩,.inr ⟨h3,h2⟩⟩
 obtain⟨h1,h2⟩:=aDt i h;exact⟨h1,.inl h2⟩
section
variable{P:Program}(A:Pr4 P)
theorem axh(e:Edt)(ps:List Pm)(zs:List WN)(hl:ps.length≤2^50){k:Nat}(hk:k<ps.length)(hI:Di ⟨ps,zs.map WN.n⟩ e.n=(k:Int)):KOk P A.ql e ps (a1r ps k e.v) zs zs 0:=by
 intro m u lo b hT hu hlo mh;obtain⟨pid,tg,cP,cN,hp,hn,hne,hub,oP,oN⟩:=hT
 have aG8:ps.map tx≠[]:=fun h=>by have:=congrArg a3h h;simp at this;subst this;simp at hk
 obtain⟨rfl,hpb⟩:=oP.ref aG8;have Rs:=fun(x y:D) (hx:Wk x (jn ps)) (hy:Wk y (l7 (zs.map WN.n)))=>ads A.toPr e.n hl hx hy;rw[hI]at Rs
 have Pz:u≠b+3:=by omega
 have hp3:pid≠b+3:=by have:=mh.lt hpb;omega
 have hup:u≠pid:=by omega
 have a7q:(ps.map tx).set k [.str (ps.getD k p0).n,.int ab e.v]=(a1r ps k e.v).map tx:=by
  unfold a1r;rw[←Xj];rfl
 refine aD5 A.mo A.Oy (by simp) hu hlo mh hp hn hne oN (by have:=mh.lt hpb;omega) (ay _) fun c=>?_
 show ko P (rr A.xx) (Bq m [.tmp 4] _ _) _
 have hn3:∀{x},m.da tg=some x→tg≠b+3:=fun h=>by have:=mh.lt h;omega
 have hg:=au0 hk
 have hk0:¬((k:Int)<0):=by omega
 have hkI:(k:Int)<ps.length:=by omega
 have asi:=mh.lt hpb
 have Va:∀(x:B),Clean ⟨lb (lb m.da (b+3) (some x)) pid (some (.arr 2 ((a1r ps k e.v).map tx))),lb m.av (b+3) (m.av (b+3)+1),m.mp⟩ (Qo m u pid (m.av pid) (a1r ps k e.v) cN):=by
  intro x;refine Aj (b:=b) (fun i hi=>?_) (fun i hi=>?_)
  ·simp only[Qo,Mem.put,ak,a1r,av4]
   refine⟨?_,?_,trivial⟩<;>(repeat' split)<;>first|rfl|omega|(subst_vars;first|rfl|omega|(rw[hub];simp))
  simp only[Qo,Mem.put,ak];rw[al (by omega),al (by omega)];exact⟨.inl (mh i hi).1,(mh i hi).2⟩
 rcases oN with ⟨e2,rfl⟩|⟨rfl,hnb⟩
 ·simp only[rr,enter,Cx,go_sem,aa,ae,ah,reduceCtorEq,ez,hub,Pz];refine qw (ds:=[.agg [.ft 2 (ps.map tx),.cq],.str e.n]) ?_ (Rs _ _ (Wk.refl _) (by rw[jc.1 e2];exact Wk.cq)) rfl ?_
  ·simp only[go_sem,nj,rb,hpb,hp3]
  simp only[go_sem,aa,ae,ah,reduceCtorEq,ez,PS.mem,ag,sv,Ac,hpb,hp3,aq,bp,hg,hk0,hub,Pz,hkI,a7q];have h9:=Va
  try simp only[ag]at h9
  exact h9 _
 simp only[rr,enter,Cx,go_sem,aa,ae,ah,reduceCtorEq,ez,hub,Pz];refine qw (ds:=[.agg [.ft 2 (ps.map tx),.ft 5 (zs.map Fh)],.str e.n]) ?_ (Rs _ _ (Wk.refl _) (Xb zs)) rfl ?_
 ·simp only[go_sem,nj,rb,hpb,hp3,hnb,hn3 hnb]
 simp only[go_sem,aa,ae,ah,reduceCtorEq,ez,PS.mem,ag,sv,Ac,hpb,hp3,aq,bp,hg,hk0,hub,Pz,hkI,a7q];have h9:=Va
 try simp only[ag]at h9
 exact h9 _
end
section
variable{P:Program}(A:Pr4 P)
end
theorem aD6{P:Program}(hm:P.follows .mixedOrders=true){f:Nat}{an:Ann}{rc:di}{nt:Nat}(hf:ew P f an=some (rc,[.tmp 4],nt))(hnt:2≤nt){e:Edt}{code:Int}{ps:List Pm}{zs':List WN}{m:Mem}{u lo b pid tg w:Nat}{cP:C}
  (hu:u<lo)(hlo:lo≤b)(mh:w8 m b)(hp:lo≤pid)(hn:lo≤tg)(hne:pid≠tg)(oP:Own m pid 2 (ps.map tx) cP)(hnb:tg<b+64)(hw:m.av tg≤w)
  (h:∀c,ko P rc (Bq m [.tmp 4] (Qn m u tg w zs' cP) (.d (.int ab code))) (enter m [.ic u (m.av u) 0,.d (.agg (Cx e))] b c)):
  ∃m',qz P f m [.ic u (m.av u) 0,.d (.agg (Cx e))] m' (.d (.int ab code))∧Sb m' u lo ps zs'∧(∀j,j<lo→j≠u→m'.da j=m.da j∧m'.av j=m.av j)∧m'.av u=m.av u∧m'.mp=m.mp∧w8 m' (b+64):=by
 have hup:u≠pid:=by omega
 have hun:u≠tg:=by omega
 have oP':Own (Qn m u tg w zs' cP) pid 2 (ps.map tx) cP:=oP.mono (by simp only[Qn,Mem.put,ak];rw[al (by omega),al (by omega)]) (by simp only[Qn,Mem.put,ak];rw[al (by omega),al (by omega)])
 have hv:∀i,m.av i≤(Qn m u tg w zs' cP).av i:=fun i=>by
  simp only[Qn,Mem.put,ak]
  (repeat' split)<;>first|omega|(subst_vars;omega)
 refine⟨Qn m u tg w zs' cP,mq hm hf hnt b h hv (fun i x hx=>?_) (fun i es hi=> .inl hi) trivial,⟨pid,tg,cP,.ref tg w zs'.length,hp,hn,hne,by simp only[Qn,Mem.put,ck],oP',.inr ⟨?_,?_⟩⟩,fun j h1 h2=>⟨?_,?_⟩,by simp only[Qn,Mem.put,ck],rfl,fun i hi=>⟨?_,(mh i (by omega)).2⟩⟩
 ·simp only[Qn,Mem.put,ak]at hx;split at hx
  ·injection hx with hx
   subst hx;refine .inr fun c hc=>?_;simp only[dq,kh,or_false]at hc;rcases hc with rfl|rfl
   ·exact oP'.wf
   show w≤(Qn m u tg w zs' _).av tg;simp only[Qn,Mem.put,ak];rw[al (by omega),bm trivial];exact ay _
  split at hx
  ·injection hx with hx;subst hx;exact .inr trivial
  exact .inl hx
 ·simp only[Qn,Mem.put,ak,ag];rw[al (by omega),bm trivial]
 ·simp only[Qn,Mem.put,ak];rw[al (by omega),bm trivial]
 ·simp only[Qn,Mem.put,ak];rw[al h2,al (by omega)]
 ·simp only[Qn,Mem.put,ak];rw[al h2,al (by omega)]
 simp only[Qn,Mem.put,ak];rw[al (by omega),al (by omega)];exact(mh i (by omega)).1
def a6v(n:Nd):Prop:=n.f.vs.length≤2^30∧n.f.ls.length≤2^30∧(∀q∈n.f.ls,q.length≤2^30)∧n.ins.length≤2^30
section
variable{P:Program}(A:Pr4 P)
theorem axf(e:Edt)(ps:List Pm)(zs:List WN)(hl:zs.length≤2^20){k:Nat}(hk:k<zs.length)(hI:Ji ⟨ps,zs.map WN.n⟩ e.n=(k:Int)):KOk P A.qk e ps ps zs (zs.eraseIdx k) 0:=by
 intro m u lo b hT hu hlo mh;obtain⟨pid,tg,cP,cN,hp,hn,hne,hub,oP,oN⟩:=hT
 have Rs:=fun(x y:D) (hx:Wk x (jn ps)) (hy:Wk y (l7 (zs.map WN.n)))=>adr A.toPr e.n (show(zs.map WN.n).length≤2^50 by simp only[ag];omega) hx hy
 rw[hI]at Rs
 have Pz:u≠b+3:=by omega
 have hp3:∀{x},m.da pid=some x→pid≠b+3:=fun h=>by have:=mh.lt h;omega
 have hn3:∀{x},m.da tg=some x→tg≠b+3:=fun h=>by have:=mh.lt h;omega
 have aG9:zs.map Fh≠[]:=fun h=>by have:=congrArg a3h h;simp at this;subst this;simp at hk
 obtain⟨rfl,hnb⟩:=oN.ref aG9;have hlt:=mh.lt hnb
 have hun:u≠tg:=by omega
 refine aD6 A.mo A.Ox (by simp) (tg:=tg) (w:=m.av tg+1) hu hlo mh hp hn hne oP (by omega) (by omega) fun c=>?_;show ko P (rp A.xw A.ng) (Bq m [.tmp 4] _ _) _
 have aza:(zs.map Fh).eraseIdx k=(zs.eraseIdx k).map Fh:=by rw[xy,xy,fu,Gx,aus]
 have aso:(zs.eraseIdx k).length=zs.length-1:=List.length_eraseIdx_of_lt hk
 have Va:∀(x:B),Clean ⟨lb (lb (lb m.da (b+3) (some x)) tg (some (.arr 5 ((zs.eraseIdx k).map Fh)))) u (some (.loc [cP,.ref tg (m.av tg+1) (zs.length-1)])),lb (lb m.av (b+3) (m.av (b+3)+1)) tg (m.av tg+1),m.mp⟩ (Qn m u tg (m.av tg+1) (zs.eraseIdx k) cP):=by
  intro x;refine Aj (b:=b) (fun i hi=>?_) (fun i hi=>?_)
  ·simp only[Qn,Mem.put,ak,aso]
   refine⟨?_,?_,trivial⟩<;>(repeat' split)<;>first|rfl|omega|(subst_vars;first|rfl|omega|simp)
  simp only[Qn,Mem.put,ak];rw[al (by omega),al (by omega)];exact⟨.inl (mh i hi).1,(mh i hi).2⟩
 have hk0:¬((k:Int)<0):=by omega
 have wk1:=cu ((k:Int)+1) (by omega) (by omega)
 have Ae:∀e∈zs.map Fh,e.all D.one=true:=fun e he=>by
  obtain⟨z,_,rfl⟩:=iw.1 he;simp only[Fh,Vi,aJ5,z.ox,z.oy,Gy];rfl
 have aDy:∀mm:Mem,mm.da tg=some (.arr 5 (zs.map Fh))→mm.av tg=m.av tg→qz P A.ng mm [.ref tg (m.av tg) (zs.map Fh).length,.d (.int ab k),.d (.int ab ((k:Int)+1))] (mm.put tg (m.av tg+1) (.arr 5 ((zs.map Fh).eraseIdx k))) (.ref tg (m.av tg+1) ((zs.map Fh).length-1)):=
  fun mm h1 h2=>ajm A.mo (sz:=5) (by_:=96) (z:=[.str ⟨#[]⟩,.int ab 0,.cq,.cq,.cq]) A.Mw (by simpa using hk) rfl rfl Ae (by simp only[ag];omega) h1 h2 (b+100)
 rcases oP with ⟨e1,rfl⟩|⟨rfl,hpb⟩
 ·simp only[rp,enter,Cx,x6,lj,nr,go_sem,aa,ae,ah,reduceCtorEq,ez,hub,Pz];refine qw (ds:=[.agg [.cq,.ft 5 (zs.map Fh)],.str e.n]) ?_ (Rs _ _ (by rw[jc.1 e1];exact Wk.cq) (Xb zs)) rfl ?_
  ·simp only[go_sem,nj,rb,hnb,hn3 hnb]
  simp only[go_sem,aa,ae,reduceCtorEq,ez,hub,Pz,hk0,wk1];refine jr (aDy _ (by simp only[PS.mem,ak,hn3 hnb,ee,hnb]) (by simp only[PS.mem,ak,hn3 hnb,ee])) ?_;simp only[go_sem,aa,ae,ez,PS.j0,PS.mem,Mem.put,gq,ag,sv,Ac,aza,aso,hnb,hn3 hnb,hun,hub,Pz];have h9:=Va
  try simp only[ag]at h9
  exact h9 _
 simp only[rp,enter,Cx,x6,lj,nr,go_sem,aa,ae,ah,reduceCtorEq,ez,hub,Pz];refine qw (ds:=[.agg [.ft 2 (ps.map tx),.ft 5 (zs.map Fh)],.str e.n]) ?_ (Rs _ _ (Wk.refl _) (Xb zs)) rfl ?_
 ·simp only[go_sem,nj,rb,hnb,hn3 hnb,hpb,hp3 hpb]
 simp only[go_sem,aa,ae,reduceCtorEq,ez,hub,Pz,hk0,wk1];refine jr (aDy _ (by simp only[PS.mem,ak,hn3 hnb,ee,hnb]) (by simp only[PS.mem,ak,hn3 hnb,ee])) ?_;simp only[go_sem,aa,ae,ez,PS.j0,PS.mem,Mem.put,gq,ag,sv,Ac,aza,aso,hnb,hn3 hnb,hun,hub,Pz];have h9:=Va
 try simp only[ag]at h9
 exact h9 _
end
theorem Xz{α β:Type}(f:α→Option β)(g:α→β)(l:List α)(h:∀x∈l,f x=some (g x)):N9 (l.map f)=some (l.map g):=by
 induction l with
 |nil=>rfl
 |cons x r ih=>
  simp only[gf,N9,h x (by simp),ih fun y hy=>h y (by simp[hy])]
theorem ajn(s:PS)(n:Nat)(x:D):deep s n (.d x)=some x:=by cases n<;>rfl
theorem awl(s:PS)(n:Nat)(e:List D):N9 ((e.map C.d).map (deep s n))=some e:=by
 rw[aF4];have:=Xz (deep s n∘C.d) id e fun x _=>ajn s n x
 rwa[aKr]at this
theorem Own.data{s:PS}{id sz:Nat}{dd:List (List D)}{c:C}(h:Own s.mem id sz dd c):∃x,Wk x (.ft sz dd)∧x.one=true∧(∀n,deep s (n+1) c=some x)∧rb s c=some x∧(∀ids,id∈ids→C.uu s ids c= .d x):=by
 rcases h with ⟨rfl,rfl⟩|⟨rfl,hb⟩
 ·exact⟨.cq,Wk.cq,rfl,fun n=>rfl,rfl,fun ids _=>rfl⟩
 have va:s.da id=some (.arr sz dd):=hb
 have e1:s.dd id (s.av id)=some (sz,dd):=by unfold PS.dd;rw[bm rfl,va]
 have e2:s.elc id (s.av id)=some (sz,dd.map (·.map .d)):=by unfold PS.elc;rw[bm rfl,va]
 refine⟨.ft sz dd,Wk.refl _,rfl,fun n=>?_,?_,fun ids hi=>?_⟩
 ·show deep s (n+1) (.ref id (s.av id) dd.length)=_
  have:=Xz (fun e:List C=>N9 (e.map (deep s n))) (fun e=>e.filterMap fun| .d x=>some x|_=>none) (dd.map (·.map C.d)) (fun e he=>by
   obtain⟨d,_,rfl⟩:=iw.1 he;rw[awl]
   congr 1
   rw[List.filterMap_map]
   exact(aJe).symm)
  have e3:(dd.map (·.map C.d)).map (fun e=>e.filterMap fun| .d x=>some x|_=>none)=dd:=by
   rw[aF4];refine(Cy fun d _=>?_).trans (aKr dd);show((d.map C.d).filterMap _)=d;rw[List.filterMap_map];exact aJe
  rw[e3]at this;simp only[deep,e2,ag,dj,this,ir]
 ·show rb s (.ref id (s.av id) dd.length)=_;simp only[rb,e1,dj]
 show C.uu s ids (.ref id (s.av id) dd.length)=_;simp only[C.uu,hi,dj,e1]
theorem Od.data{s:PS}{b:Nat}{n:Nd}{e:List C}(h:Od s.mem b n e):∃z:WN,z.n=n∧(∀k,N9 (e.map (deep s (k+1)))=some (Fh z))∧∀ids,b+45∈ids→b+35∈ids→e.map (C.uu s ids)=(Fh z).map .d:=by
 obtain⟨cV,cI,rfl,h1,h2⟩:=h;obtain⟨x,x1,x2,x3,x4,x5⟩:=h1.data;obtain⟨y,y1,y2,y3,y4,y5⟩:=h2.data;refine⟨⟨n,x,y,x1,y1,x2,y2⟩,rfl,fun k=>?_,fun ids i1 i2=>?_⟩
 ·simp only[gf,ni,ajn,x3,y3,N9,Fh]
 simp only[gf,ni,x5 ids i1,y5 ids i2,Fh];rfl
theorem af0{β:Type}{p:Nat→β→Prop}(n:Nat)(h:∀k,k<n→∃z,p k z):∃l:List β,l.length=n∧∀k (hk:k<l.length),p k l[k]:=by
 induction n with
 |zero=>exact⟨[],rfl,fun k hk=>absurd hk (by simp)⟩
 |succ n ih=>
  obtain⟨l,hl,h2⟩:=ih fun k hk=>h k (by omega);obtain⟨z,hz⟩:=h n (by omega);refine⟨l++[z],by simp[hl],fun k hk=>?_⟩;simp only[db,ca,ed]at hk;rcases V0 k l.length with h'|h'
  ·rw[aF6 h'];exact h2 k h'
  have:k=l.length:=by omega
  subst this;rw[List.getElem_append_right (by omega)];simp only[Uz,aI7];rw[hl];exact hz
def Er(b n:Nat):List Nat:=(dn n).flatMap fun k=>[b+64+64*k+45,b+64+64*k+35]
theorem Up{b n i:Nat}:i∈Er b n↔∃k,k<n∧(i=b+64+64*k+45∨i=b+64+64*k+35):=by
 unfold Er;rw[Ff];constructor
 ·rintro⟨k,hk,h⟩;simp only[dq,kh,or_false]at h;exact⟨k,ep.1 hk,h⟩
 rintro⟨k,hk,h⟩;exact⟨k,ep.2 hk,by simpa using h⟩
theorem a3r{s:PS}{a b:C}{x y:D}(h1:rb s a=some x)(h2:rb s b=some y):nj s [a,b]=some [x,y]:=by
 have:nj s [b]=some [y]:=by
  show(match rb s b,nj s []with|some x,some l=>some (x::l)|_,_=>none)=_
  rw[h2];rfl
 show(match rb s a,nj s [b]with|some x,some l=>some (x::l)|_,_=>none)=_
 rw[h1,this]
theorem Ue.data{s:PS}{b:Nat}{l:List Nd}{cells:List (List C)}(h:Ue s.mem b l cells):∃zs:List WN,zs.map WN.n=l∧(∀k,N9 (cells.map fun e=>N9 (e.map (deep s (k+1))))=some (zs.map Fh))∧
  cells.map (fun e=>e.map (C.uu s (Er b l.length)))=(zs.map Fh).map (·.map .d):=by
 obtain⟨zs,hz,hp⟩:=af0 (p:=fun k z=>z.n=l.getD k n0∧(∀q,N9 ((cells.getD k []).map (deep s (q+1)))=some (Fh z))∧(cells.getD k []).map (C.uu s (Er b l.length))=(Fh z).map .d) l.length (fun k hk=>by
  obtain⟨z,z1,z2,z3⟩:=(h.2 k hk).data
  exact⟨z,z1,z2,z3 _ (Up.2 ⟨k,hk,.inl rfl⟩) (Up.2 ⟨k,hk,.inr rfl⟩)⟩)
 have hcl:=h.1;refine⟨zs,?_,fun k=>?_,?_⟩
 ·refine am1 (by simpa using hz) fun i h1 h2=>?_;rw[am0,(hp i (by simpa using h1)).1];simp[cd,h2]
 ·have hlen:cells.length=zs.length:=by omega
  have:cells.map (fun e=>N9 (e.map (deep s (k+1))))=(zs.map Fh).map some:=by
   refine am1 (by simp[hlen]) fun i h1 h2=>?_;simp only[ag]at h1 h2;simp only[am0];have:=(hp i h2).2.1 k
   have e1:cells.getD i []=cells[i]:=by simp[cd,h1]
   rw[e1]at this;exact this
  rw[this];have:=Xz (some:List D→Option (List D)) id (zs.map Fh) fun x _=>rfl
  rwa[aKr]at this
 have hlen:cells.length=zs.length:=by omega
 refine am1 (by simp[hlen]) fun i h1 h2=>?_;simp only[ag]at h1 h2;simp only[am0];have:=(hp i h2).2.2
 have e1:cells.getD i []=cells[i]:=by simp[cd,h1]
 rw[e1]at this;exact this
theorem Ra.data{s:PS}{b:Nat}{t:Tr}{cs:List C}(h:Ra s.mem b t cs):∃x y,nj s cs=some [x,y]∧Wk x (jn t.ps)∧Wk y (l7 t.ns):=by
 obtain⟨cP,cN,cells,rfl,oP,hC,hN⟩:=h;obtain⟨x,x1,x2,x3,x4,x5⟩:=oP.data;obtain⟨zs,z1,z2,z3⟩:=hC.data;rcases hN with ⟨h0,rfl⟩|⟨h0,rfl,hb⟩
 ·exact⟨x,.cq,a3r x4 rfl,x1,by rw[h0];exact Wk.cq⟩
 have va:s.da (b+51)=some (.qq 5 cells):=hb
 have e1:s.dd (b+51) (s.av (b+51))=none:=by unfold PS.dd;rw[bm rfl,va]
 have e2:s.elc (b+51) (s.av (b+51))=some (5,cells):=by unfold PS.elc;rw[bm rfl,va]
 have e3:rb s (.ref (b+51) (s.mem.av (b+51)) t.ns.length)=some (.ft 5 (zs.map Fh)):=by
  show rb s (.ref (b+51) (s.av (b+51)) t.ns.length)=_;simp only[rb,e1,deep,e2,hC.1,dj,z2 4,ir]
 refine⟨x,.ft 5 (zs.map Fh),a3r x4 e3,x1,?_⟩;rw[←z1];exact Xb zs
def isRef:C→Bool
 | .ref .. =>true
 |_=>false
section
variable{P:Program}
end
theorem Ra.mono{m m':Mem}{b n:Nat}{t:Tr}{cs:List C}(h:Ra m b t cs)(hn:t.ns.length≤n)(hm:∀i,b≤i→i<b+96+64*n+64→m'.da i=m.da i∧m'.av i=m.av i):Ra m' b t cs:=by
 obtain⟨cP,cN,cells,rfl,oP,hC,hN⟩:=h;refine⟨cP,cN,cells,rfl,oP.mono (hm _ (by omega) (by omega)).1 (hm _ (by omega) (by omega)).2,⟨hC.1,fun k hk=>(hC.2 k hk).mono (hm _ (by omega) (by omega)).1 (hm _ (by omega) (by omega)).2 (hm _ (by omega) (by omega)).1 (hm _ (by omega) (by omega)).2⟩,?_⟩;rcases hN with h0|⟨h0,h1,h2⟩
 ·exact .inl h0
 exact .inr ⟨h0,by rw[(hm _ (by omega) (by omega)).2];exact h1,by rw[(hm _ (by omega) (by omega)).1];exact h2⟩
section
variable{P:Program}(A:Pr4 P)
end
def rnS(o n s:ByteArray):ByteArray:=if kf s o then n else s
def aFf(o n:ByteArray)(x:Nd):Nd:=⟨x.n,x.f,x.ins.map (rnS o n)⟩
section
variable{P:Program}(A:Pr4 P)
end
def aD1(ns:List Nd)(k:Nat)(s:ByteArray):List Nd:=ns.set k ⟨s,(ns.getD k n0).f,(ns.getD k n0).ins⟩
def awc(t:Tr)(e:Edt)(k:Nat):Tr:=⟨t.ps,(aD1 t.ns k e.t).map (aFf e.n e.t)⟩
section
variable{P:Program}(A:Pr4 P)
end
def rpV(o n:ByteArray)(v:Vl):Vl:=if kf v.n o then⟨n,v.t,v.a⟩else v
def aFe(o n:ByteArray)(x:Nd):Nd:=⟨x.n,⟨x.f.k,x.f.vs.map (rpV o n),x.f.ls⟩,x.ins⟩
section
variable{P:Program}(A:Pr4 P)
end
def aD0(ps:List Pm)(k:Nat)(s:ByteArray):List Pm:=ps.set k ⟨s,(ps.getD k p0).v⟩
def ar4(t:Tr)(e:Edt)(k:Nat):Tr:=⟨aD0 t.ps k e.t,t.ns.map (aFe e.n e.t)⟩
section
variable{P:Program}(A:Pr4 P)
end
def byC(a b:ByteArray):Int:=if strLt a b then-1 else if(!(strLt a b||kf a b))then 1 else 0
theorem a3f{a b:ByteArray}:byC a b<0↔strLt a b=true:=by
 unfold byC;split
 ·rename_i h;simp[h]
 rename_i h;constructor
 ·intro h2;split at h2<;>omega
 intro h2;exact absurd h2 h
section
variable{α:Type}(key:α→ByteArray)
def uk:List α→α→List α
 |[],x=>[x]
 |y::r,x=>if strLt (key x) (key y)then y::uk r x else x::y::r
def jf(l:List α):List α:=l.foldl (fun acc x=>(uk key acc.reverse x).reverse) []
theorem a4x(l:List α)(x:α):(uk key l x).length=l.length+1:=by
 induction l with
 |nil=>rfl
 |cons y r ih=>unfold uk;split<;>simp[ih]
theorem a10(l:List α)(x:α):(uk key l x).Perm (x::l):=by
 induction l with
 |nil=>exact aJo _
 |cons y r ih=>
  unfold uk;split
  ·exact(ih.cons y).trans (List.Perm.swap x y r)
  exact aJo _
theorem Ef(l:List α)(x:α):jf key (l++[x])=(uk key (jf key l).reverse x).reverse:=by
 unfold jf;rw[mc];rfl
theorem ym(l:List α):(jf key l).length=l.length:=by
 have:∀r:List α,(jf key r.reverse).length=r.length:=by
  intro r
  induction r with
  |nil=>rfl
  |cons x r ih=>rw[uy,Ef,a1h,a4x,a1h,ih];rfl
 have h:=this l.reverse
 rwa[ug,a1h]at h
theorem Wm(l:List α):(jf key l).Perm l:=by
 have:∀r:List α,(jf key r.reverse).Perm r.reverse:=by
  intro r
  induction r with
  |nil=>exact aJo _
  |cons x r ih=>
   rw[uy,Ef];refine(List.reverse_perm _).trans ((a10 key _ x).trans ?_)
   refine((List.reverse_perm _).trans ih).cons x|>.trans ?_
   exact(List.perm_append_singleton x r.reverse).symm
 have h:=this l.reverse
 rwa[ug]at h
end
def af8(sz:Nat):di:=
 (.seq (
 .region [⟨some 10,.j7 (.t 1),none,[]⟩,
  ⟨some 11,.bin .add (.t 10) (.c (.int ab 1)),none,[]⟩,
  ⟨some 8,.j7 (.t 11),none,[]⟩] false []) (
 (.block 0 (
  (.loop (
  (.seq (
   (.seq (
   .region [⟨some 12,.j7 (.t 8),none,[]⟩,
    ⟨some 13,.j7 (.t 2),none,[]⟩,
    ⟨some 14,.bin .lss (.t 12) (.t 13),none,[]⟩] false []) (
   (.cond (.t 14) (
    .skip) (
    .exit 0))))) (
   (.seq (
   (.block 1 (
    (.seq (
    .region [⟨some 17,.j7 (.t 8),none,[]⟩,
     ⟨some 9,.j7 (.t 17),none,[]⟩] false []) (
    (.block 2 (
     (.loop (
     (.seq (
      (.seq (
      .region [⟨some 18,.j7 (.t 9),none,[]⟩,
       ⟨some 19,.j7 (.t 1),none,[]⟩,
       ⟨some 20,.bin .gtr (.t 18) (.t 19),none,[]⟩,
       ⟨some 21,.j7 (.t 20),none,[]⟩,
       ⟨some 22,.j7 (.t 3),some (21,true),[]⟩,
       ⟨some 23,.j7 (.t 0),some (21,true),[]⟩,
       ⟨some 24,.j7 (.t 9),some (21,true),[]⟩,
       ⟨some 25,.sq sz (.t 23) (.t 24),some (21,true),[]⟩,
       ⟨some 26,.load sz true (.t 25),some (21,true),[]⟩,
       ⟨some 27,.j7 (.t 0),some (21,true),[]⟩,
       ⟨some 28,.j7 (.t 9),some (21,true),[]⟩,
       ⟨some 29,.bin .sub (.t 28) (.c (.int ab 1)),some (21,true),[]⟩,
       ⟨some 30,.sq sz (.t 27) (.t 29),some (21,true),[]⟩,
       ⟨some 31,.load sz true (.t 30),some (21,true),[]⟩,
       ⟨some 32,.wv (.t 22) [(.t 26),(.t 31)],some (21,true),[]⟩,
       ⟨some 33,.bin .lss (.t 32) (.c (.int ab 0)),some (21,true),[]⟩,
       ⟨some 34,.pick (.t 21) (.t 33) (.c (.bool false)),none,[]⟩] true []) (
      (.cond (.t 34) (
       .skip) (
       .exit 2))))) (
      (.seq (
      (.block 3 (
       .region [⟨some 37,.j7 (.t 0),none,[]⟩,
        ⟨some 38,.j7 (.t 9),none,[]⟩,
        ⟨some 39,.j7 (.t 0),none,[]⟩,
        ⟨some 40,.j7 (.t 9),none,[]⟩,
        ⟨some 41,.bin .sub (.t 40) (.c (.int ab 1)),none,[]⟩,
        ⟨some 42,.j7 (.t 0),none,[]⟩,
        ⟨some 43,.j7 (.t 9),none,[]⟩,
        ⟨some 44,.bin .sub (.t 43) (.c (.int ab 1)),none,[]⟩,
        ⟨some 45,.sq sz (.t 42) (.t 44),none,[]⟩,
        ⟨some 46,.load sz true (.t 45),none,[]⟩,
        ⟨some 47,.j7 (.t 0),none,[]⟩,
        ⟨some 48,.j7 (.t 9),none,[]⟩,
        ⟨some 49,.sq sz (.t 47) (.t 48),none,[]⟩,
        ⟨some 50,.load sz true (.t 49),none,[]⟩,
        ⟨some 51,.sq sz (.t 37) (.t 38),none,[]⟩,
        ⟨none,.store sz (.t 51) (.t 46),none,[]⟩,
        ⟨some 52,.sq sz (.t 39) (.t 41),none,[]⟩,
        ⟨none,.store sz (.t 52) (.t 50),none,[]⟩] true []))) (
      .region [⟨some 35,.j7 (.t 9),none,[]⟩,
       ⟨some 36,.bin .sub (.t 35) (.c (.int ab 1)),none,[]⟩,
       ⟨some 9,.j7 (.t 36),none,[]⟩] false []))))))))))))) (
   .region [⟨some 15,.j7 (.t 8),none,[]⟩,
    ⟨some 16,.bin .add (.t 15) (.c (.int ab 1)),none,[]⟩,
    ⟨some 8,.j7 (.t 16),none,[]⟩] false []))))))))))
def azh(i:Nat)(M:PS→Prop)(Q:Exit→PS→Prop):Exit→PS→Prop
 | .exit j,s=>if j=i then M s else Q (.exit j) s
 |e,s=>Q e s
theorem a5v{i j:Nat}{M:PS→Prop}{Q:Exit→PS→Prop}{s:PS}:azh i M Q (.exit j) s=if j=i then M s else Q (.exit j) s:=rfl
theorem Ze{P:Program}{c:di}{i:Nat}{Q:Exit→PS→Prop}{s:PS}(M:PS→Prop)(h1:ko P c (azh i M Q) s)(h2:∀s',M s'→Q (.exit i) s'):ko P c Q s:=
 Em (fun e s' h=>by
  cases e with
  |exit j=>
   rw[a5v]at h;split at h
   ·rename_i hj;subst hj;exact h2 s' h
   exact h
  |_=>exact h) h1
attribute [go_sem] a5v
def agr{α:Type}(m:Mem)(b id q sz g:Nat)(ce:α→List D)(n:Nat)(a b':Nat)(W:List α)(s':PS):Prop:=
 s'.base=b∧s'.tmp 0= .ref id (m.av id) n∧s'.tmp 1= .d (.int ab a)∧s'.tmp 2= .d (.int ab b')∧s'.tmp 3= .nu g [(q,m.av q)]∧s'.av=m.av∧s'.mp=m.mp∧s'.da=lb m.da id (some (.arr sz (W.map ce)))
theorem a0r{P:Program}{K:PS→Prop}{s:PS}{r:List RI}{d:Option Nat}{g:Nat}{iy:List D}{own:Bool}{a b x:D}(h2:iq P g (a::b::iy) x)(hx:x.flat=true)(h4:l5 P r (s.put d (.d x)) K):F9 P g [.d a,.d b] iy own d s (Ab P r K):=⟨[a,b],x,rfl,h2.toC,.inl hx,h4⟩
theorem adi{α:Type}(F R:List α)(x y:α):((F++y::x::R).set (F.length+1) y).set F.length x=F++x::y::R:=by
 rw[apl _ _ (by omega)];simp only[aHy,List.set_cons_succ,List.set_cons_zero];rw[apl _ _ (by omega),Uz];rfl
theorem at0{α β:Type}(f:α→β)(F R:List α)(x y:α):((F++y::x::R).map f)[F.length]? =some (f y):=by
 rw[cw,mb (ay _),Uz];rfl
theorem at1{α β:Type}(f:α→β)(F R:List α)(x y:α):((F++y::x::R).map f)[F.length+1]? =some (f x):=by
 rw[cw,mb (by omega),aHy];rfl
section
variable{P:Program}
theorem axj(hm:P.follows .mixedOrders=true){f:Nat}{sz:Nat}(hf:ew P f {}=some (af8 sz,[],53)){α:Type}{ce:α→List D}{key:α→ByteArray}(B6:∀x,(ce x).length=sz)(Ae:∀x,(ce x).all D.one=true){g q qv:Nat}{X:D}
  (aff:∀x y,iq P g [.agg (ce x),.agg (ce y),.te [X] 0] (.int ab (byC (key x) (key y)))){m:Mem}{id av:Nat}{W:List α}{a b':Nat}(hab:a≤b')(va:b'≤W.length)(hl:W.length≤2^30)(hb:m.da id=some (.arr sz (W.map ce)))(hv:m.av id=av)
  (hq:m.da q=some (.loc [.d X]))(hqv:m.av q=qv)(hne:id≠q)(b:Nat):
  qz P f m [.ref id av W.length,.d (.int ab a),.d (.int ab b'),.nu g [(q,qv)]] (m.put id av (.arr sz ((W.take a++jf key ((W.drop a).take (b'-a))++W.drop b').map ce))) (.Aa []):=by
 subst hv hqv;refine mq hm hf (by simp) b (fun c=>?_) (Mem.La (ay _)) Mem.Pu (fun i es hi=> .inl hi) (by simp[Gu]);show ko P (af8 sz) (Bq m [] _ _) _;have wa:=cu ((a:Int)+1) (by omega) (by omega);simp only[af8,enter,go_sem,aa,reduceCtorEq,wa];have azb:(W.map ce).length=W.length:=ag _;have afe:∀x,(ce x).drop sz=[]:=fun x=>Sk (by rw[B6];exact ay _)
 have aBg:∀x y,(ce x).drop (ce y).length=[]:=fun x y=>by rw[B6];exact afe x
 have a52:∀x,(ce x).take sz=ce x:=fun x=>tz (by rw[B6];exact ay _)
 have hall:∀(s:PS) x,((ce x).map C.d).all (C.one s)=true:=fun s x=>by
  have:=Ae x;rw[cz]at this⊢;intro c hc;obtain⟨d,hd,rfl⟩:=iw.1 hc;exact this d hd
 have Va:∀(s':PS) W',agr m b id q sz g ce W.length a b' W' s'→W'=W.take a++jf key ((W.drop a).take (b'-a))++W.drop b'→Clean s'.mem (m.put id (m.av id) (.arr sz ((W.take a++jf key ((W.drop a).take (b'-a))++W.drop b').map ce))):=by
  rintro s' W' ⟨eb,f0,f1,f2,f3,ev,emp,ebl⟩ rfl i;simp only[Mem.put,PS.mem,ev,emp,ebl,ak];by_cases hi:i=id
  ·subst hi;simp
  simp[hi]
 by_cases aGs:b'=a
 ·subst aGs;refine fh 0 (fun k s'=>agr m b id q sz g ce W.length b' b' W s'∧s'.tmp 8= .d (.int ab ((b':Int)+1))) ?_ ?_
  ·refine⟨⟨rfl,rfl,rfl,rfl,rfl,rfl,rfl,?_⟩,rfl⟩
   funext i
   simp only[ak];split
   ·rename_i h;rw[h];exact hb
   rfl
  rintro k s' hk ⟨hS,f8⟩;have hS2:=hS;obtain⟨eb,f0,f1,f2,f3,ev,emp,ebl⟩:=hS2
  have hnl:¬((b':Int)+1<b'):=by omega
  simp only[go_sem,aa,reduceCtorEq,f2,f8,hnl,sv,J2];refine Va _ W ⟨eb,f0,f1,f2,f3,ev,emp,ebl⟩ ?_;simp[jf]
 refine fh (b'-(a+1)) (fun k s'=>agr m b id q sz g ce W.length a b' (W.take a++jf key ((W.drop a).take (k+1))++W.drop (a+1+k)) s'∧s'.tmp 8= .d (.int ab ((a+1+k:Nat):Int))) ?_ ?_
 ·refine⟨⟨rfl,rfl,rfl,rfl,rfl,rfl,rfl,?_⟩,?_⟩
  ·funext i
   have:W.take a++jf key ((W.drop a).take 1)++W.drop (a+1)=W:=by
    have e1:(W.drop a).take 1=[W[a]'(by omega)]:=by rw[jq (by omega)];rfl
    rw[e1];show W.take a++[_]++_=_;rw[oq];show W.take a++(W[a]'(by omega)::W.drop (a+1))=W;rw[←jq (by omega),Gv]
   simp only[ak,fj,Bw,this];split
   ·rename_i h;rw[h];exact hb
   rfl
  simp only[ak,dj];rfl
 rintro k s' hk ⟨⟨eb,f0,f1,f2,f3,ev,emp,ebl⟩,f8⟩;by_cases hlt:((a+1+k:Nat):Int)<b'
 ·have df:a+1+k<b':=by omega
  have wk:=cu (((a+1+k:Nat):Int)+1) (by omega) (by omega);simp only[go_sem,aa,reduceCtorEq,f2,f8,hlt];obtain⟨x,hx⟩:∃x,x=W[a+1+k]'(by omega):=⟨_,rfl⟩
  have hd:W.drop (a+1+k)=x::W.drop (a+1+k+1):=by rw[hx];exact jq (by omega)
  have htk:(W.drop a).take (k+1+1)=(W.drop a).take (k+1)++[x]:=by
   rw[fm];simp only[oo];rw[show a+(k+1)=a+1+k by omega,ax (by omega),←hx];rfl
  have hsl:(jf key ((W.drop a).take (k+1))).length=k+1:=by
   rw[ym];simp only[dw,uv];omega
  have alb:=Ef key ((W.drop a).take (k+1)) x;rw[←htk]at alb
  generalize aIh:jf key ((W.drop a).take (k+1))=seg at*
  generalize az7:W.drop (a+1+k+1)=rest at*
  rw[hd]at ebl
  have hpl:(W.take a).length=a:=by simp only[dw];omega
  have aDb:W.length=a+(k+1)+1+rest.length:=by rw[←az7];simp only[uv];omega
  generalize W.take a=pre at*
  refine Ze (i:=2) (fun s2=>agr m b id q sz g ce W.length a b' (pre++(uk key seg.reverse x).reverse++rest) s2∧s2.tmp 8= .d (.int ab ((a+1+k:Nat):Int))) ?_ ?_
  ·refine fh (k+1) (fun r s2=>∃A B,A.length+r=k+1∧agr m b id q sz g ce W.length a b' (pre++A++x::B++rest) s2∧s2.tmp 8= .d (.int ab ((a+1+k:Nat):Int))∧s2.tmp 9= .d (.int ab ((a+A.length:Nat):Int))∧(uk key A.reverse x).reverse++B=(uk key seg.reverse x).reverse) ?_ ?_
   ·refine⟨seg,[],by omega,⟨eb,f0,f1,f2,f3,ev,emp,?_⟩,?_,?_,by simp⟩
    ·show s'.da=_;rw[ebl];simp only[oq,xz,N1]
    ·simp only[ak,aa,ee,f8]
    simp only[ak,dj];rw[hsl,show a+1+k=a+(k+1)by omega]
   clear eb f0 f1 f2 f3 ev emp ebl f8;rintro r s2 hr ⟨A,B,hAl,⟨eb,f0,f1,f2,f3,ev,emp,ebl⟩,f8,f9,Nb⟩;rcases List.eq_nil_or_concat A with rfl|⟨A',y,rfl⟩
   ·have hgt:¬(((a+([]:List α).length:Nat):Int)>a):=by simp
    simp only[go_sem,aa,reduceCtorEq,f1,f8,f9];refine⟨eb,f0,f1,f2,f3,ev,emp,?_⟩;show s2.da=_;rw[ebl,←Nb];simp[uk]
   obtain⟨F,hF⟩:∃F,F=pre++A':=⟨_,rfl⟩;obtain⟨R,hR⟩:∃R,R=B++rest:=⟨_,rfl⟩
   have aBk:(A'++[y]).length=A'.length+1:=by simp
   have hFl:F.length=a+A'.length:=by rw[hF,db,hpl]
   have hW2:pre++A'.concat y++x::B++rest=F++y::x::R:=by rw[hF,hR];simp
   rw[aIr]at hAl Nb;rw[hW2]at ebl
   have h9:s2.tmp 9= .d (.int ab ((F.length+1:Nat):Int)):=by
    rw[f9,hFl,aIr,aBk,qj]
   have hgt:((F.length+1:Nat):Int)>a:=by omega
   have hWl:F.length+1+1+R.length=W.length:=by
    rw[aBk]at hAl
    have:R.length=B.length+rest.length:=by rw[hR,db]
    have h6:=congrArg a3h Nb;simp only[db,a1h,a4x,hsl,ca,ed]at h6;omega
   have wj:=cu (((F.length+1:Nat):Int)-1) (by omega) (by omega)
   have wj2:((F.length+1:Nat):Int)-1=(F.length:Int):=by omega
   rw[wj2]at wj;have g0:=at0 ce F R x y;have g1:=at1 ce F R x y
   have hl1:((F.length+1:Nat):Int)<(W.length:Int):=by omega
   have hl2:(F.length:Int)<(W.length:Int):=by omega
   have hbi:s2.da id=some (.arr sz ((F++y::x::R).map ce)):=by rw[ebl,ck]
   have hbq:s2.da q=some (.loc [.d X]):=by rw[ebl,gu _ _ _ _ hne.symm];exact hq
   have axv:((F++y::x::R).map ce).length=W.length:=by simp only[ag,db,ca];omega
   have hc:=aff x y
   generalize hM:(F++y::x::R).map ce=M at*
   simp only[go_sem,aa,reduceCtorEq,f0,f1,f3,h9,hgt,ev,hbi,hbq,axv,wj,wj2,hl1,hl2,g0,g1,B6,a52,bp,aq,mkd,nj,rb];refine a0r hc rfl ?_
   have hn1:F.length+1<W.length:=by omega
   have g2:(M.set (F.length+1) (ce y))[F.length]? =some (ce y):=by rw[Da,al (by omega)];exact g0
   have a7q:(M.set (F.length+1) (ce y)).set F.length (ce x)=(F++x::y::R).map ce:=by
    rw[←hM,Xj,Xj,adi]
   cases abx:strLt (key x) (key y)
   ·have aiu:¬(byC (key x) (key y)<0):=by rw[a3f,abx];simp
    simp only[go_sem,aa,reduceCtorEq,f8,aiu];refine⟨eb,f0,f1,f2,f3,?_,emp,?_⟩
    ·rfl
    show s2.da=_;rw[ebl,hM.symm]
    congr 3
    rw[←Nb,azr];simp only[uy,azq,N1,xz,uk,abx,fk,ee,hF,hR];simp
   have aiu:byC (key x) (key y)<0:=by rw[a3f,abx]
   simp only[go_sem,aa,reduceCtorEq,f0,f8,h9,aiu,hbi,axv,wj,wj2,hl1,hl2,g0,g1,B6,a52,bp,aq,mkd,Yz,hall,afe,av4,g2,a7q];rw[aBk]at hAl;refine⟨by omega,A',y::B,by omega,⟨eb,f0,f1,f2,f3,rfl,emp,?_⟩,by rw[hFl],?_⟩
   ·show lb _ _ _=lb _ _ _;rw[ebl]
    have e5:F++x::y::R=pre++A'++x::(y::B)++rest:=by rw[hF,hR];simp
    rw[e5]
    funext i
    simp only[ak];split<;>rfl
   rw[←Nb,azr];simp only[uy,azq,N1,xz,uk,abx,dj];simp
  rintro s2 ⟨⟨eb,f0,f1,f2,f3,ev,emp,ebl⟩,f8⟩;simp only[go_sem,aa,reduceCtorEq,f8,wk];refine⟨by omega,⟨eb,f0,f1,f2,f3,ev,emp,?_⟩,?_⟩
  ·show s2.da=_;rw[ebl,alb,show a+1+(k+1)=a+1+k+1 by omega,az7]
  rfl
 have:a+1+k=b':=by omega
 simp only[go_sem,aa,reduceCtorEq,f2,f8,hlt,sv,J2];refine Va _ _ ⟨eb,f0,f1,f2,f3,ev,emp,ebl⟩ ?_;rw[this,show k+1=b'-a by omega]
end
theorem a0k{a b c:ByteArray}(h:strLt b a=false)(k:strLt c b=false):strLt c a=false:=by
 rw[Qf,decide_eq_false_iff_not,aKq]at*
 exact List.le_trans h k
theorem apv{a b c:ByteArray}(h:strLt a b=true)(k:strLt c b=false):strLt a c=true:=by
 cases q:strLt a c
 ·have:=a0k k q;rw[h]at this;cases this
 rfl
section
variable{α:Type}(key:α→ByteArray)
def ad3(l:List α):Prop:=l.Pairwise fun x y=>strLt (key y) (key x)=false
theorem a7p{l:List α}{x:α}(h:l.Pairwise fun x y=>strLt (key x) (key y)=false):(uk key l x).Pairwise fun x y=>strLt (key x) (key y)=false:=by
 induction l with
 |nil=>simp[uk]
 |cons y r ih=>
  rw[Ek]at h;unfold uk;split
  ·rename_i hlt;rw[Ek];refine⟨fun z hz=>?_,ih h.2⟩;rcases dq.1 ((a10 key r x).mem_iff.1 hz)with rfl|hz
   ·exact T8 hlt
   exact h.1 z hz
  rename_i hlt
  have df:strLt (key x) (key y)=false:=by simpa using hlt
  rw[Ek];refine⟨fun z hz=>?_,Ek.2 h⟩;rcases dq.1 hz with rfl|hz
  ·exact df
  exact a0k (h.1 z hz) df
theorem abu(l:List α):ad3 key (jf key l):=by
 have:∀r:List α,ad3 key (jf key r.reverse):=by
  intro r
  induction r with
  |nil=>exact List.Pairwise.nil
  |cons x r ih=>
   rw[uy,Ef];unfold ad3;rw[aIp];refine a7p key ?_;rw[aIp];exact ih
 have h:=this l.reverse
 rwa[ug]at h
theorem af6{B:List α}{x:α}(h:∀y∈B,strLt (key x) (key y)=true)(A:List α):uk key (B++A) x=B++uk key A x:=by
 induction B with
 |nil=>rfl
 |cons y r ih=>
  show uk key (y::(r++A)) x=y::(r++uk key A x);rw[uk,bm (h y (by simp)),ih fun z hz=>h z (by simp[hz])]
theorem af7{A:List α}{x:α}(h:∀y∈A,strLt (key x) (key y)=false):uk key A x=x::A:=by
 cases A with
 |nil=>rfl
 |cons y r=>rw[uk,al (by rw[h y (by simp)];simp)]
theorem ahb{S:List α}{x:α}{i:Nat}(h1:∀y∈S.take i,strLt (key x) (key y)=false)(h2:∀y∈S.drop i,strLt (key x) (key y)=true):(uk key S.reverse x).reverse=S.take i++x::S.drop i:=by
 have e:S.reverse=(S.drop i).reverse++(S.take i).reverse:=by rw[←azr,Gv]
 rw[e,af6 key (fun y hy=>h2 y (by simpa using hy)),af7 key (fun y hy=>h1 y (by simpa using hy))];simp
end
def avk(sz aE9 afw:Nat):di:=
 (.seq (
 (.seq (
  .region [⟨some 25,.j7 (.t 2),none,[]⟩,
   ⟨some 26,.j7 (.t 1),none,[]⟩,
   ⟨some 27,.bin .sub (.t 25) (.t 26),none,[]⟩,
   ⟨some 28,.bin .eql (.t 27) (.c (.int ab 1)),none,[]⟩] false []) (
  (.cond (.t 28) (
  (.seq (
   .region [⟨some 29,.j7 (.t 2),none,[]⟩,
    ⟨some 10,.j7 (.t 29),none,[]⟩] false []) (
   (.seq (
   .region [⟨some 30,.j7 (.t 3),none,[]⟩,
    ⟨some 11,.j7 (.t 30),none,[]⟩] false []) (
   (.seq (
    (.block 0 (
    (.loop (
     (.seq (
     (.seq (
      .region [⟨some 31,.j7 (.t 10),none,[]⟩,
       ⟨some 32,.j7 (.t 11),none,[]⟩,
       ⟨some 33,.bin .lss (.t 31) (.t 32),none,[]⟩] false []) (
      (.cond (.t 33) (
      .skip) (
      .exit 0))))) (
     (.block 1 (
      (.seq (
      .region [⟨some 34,.j7 (.t 10),none,[]⟩,
       ⟨some 35,.j7 (.t 11),none,[]⟩,
       ⟨some 36,.bin .add (.t 34) (.t 35),none,[]⟩,
       ⟨some 37,.conv .u64 (.t 36),none,[]⟩,
       ⟨some 38,.bin .shr (.t 37) (.c (.int .u64 1)),none,[]⟩,
       ⟨some 39,.conv ab (.t 38),none,[]⟩,
       ⟨some 12,.j7 (.t 39),none,[]⟩] false []) (
      (.seq (
       .region [⟨some 40,.j7 (.t 4),none,[]⟩,
        ⟨some 41,.j7 (.t 0),none,[]⟩,
        ⟨some 42,.j7 (.t 12),none,[]⟩,
        ⟨some 43,.sq sz (.t 41) (.t 42),none,[]⟩,
        ⟨some 44,.load sz true (.t 43),none,[]⟩,
        ⟨some 45,.j7 (.t 0),none,[]⟩,
        ⟨some 46,.j7 (.t 1),none,[]⟩,
        ⟨some 47,.sq sz (.t 45) (.t 46),none,[]⟩,
        ⟨some 48,.load sz true (.t 47),none,[]⟩,
        ⟨some 49,.wv (.t 40) [(.t 44),(.t 48)],none,[]⟩,
        ⟨some 50,.bin .lss (.t 49) (.c (.int ab 0)),none,[]⟩] true []) (
       (.cond (.t 50) (
       .region [⟨some 51,.j7 (.t 12),none,[]⟩,
        ⟨some 52,.bin .add (.t 51) (.c (.int ab 1)),none,[]⟩,
        ⟨some 10,.j7 (.t 52),none,[]⟩] false []) (
       .region [⟨some 53,.j7 (.t 12),none,[]⟩,
        ⟨some 11,.j7 (.t 53),none,[]⟩] false []))))))))))))))) (
    (.seq (
    (.seq (
     .region [⟨some 54,.j7 (.t 1),none,[]⟩,
      ⟨some 13,.j7 (.t 54),none,[]⟩] false []) (
     (.block 2 (
     (.loop (
      (.seq (
      (.seq (
       .region [⟨some 55,.j7 (.t 13),none,[]⟩,
        ⟨some 56,.j7 (.t 10),none,[]⟩,
        ⟨some 57,.bin .sub (.t 56) (.c (.int ab 1)),none,[]⟩,
        ⟨some 58,.bin .lss (.t 55) (.t 57),none,[]⟩] false []) (
       (.cond (.t 58) (
       .skip) (
       .exit 2))))) (
      (.seq (
       (.block 3 (
       .region [⟨some 61,.j7 (.t 0),none,[]⟩,
        ⟨some 62,.j7 (.t 13),none,[]⟩,
        ⟨some 63,.j7 (.t 0),none,[]⟩,
        ⟨some 64,.j7 (.t 13),none,[]⟩,
        ⟨some 65,.bin .add (.t 64) (.c (.int ab 1)),none,[]⟩,
        ⟨some 66,.j7 (.t 0),none,[]⟩,
        ⟨some 67,.j7 (.t 13),none,[]⟩,
        ⟨some 68,.bin .add (.t 67) (.c (.int ab 1)),none,[]⟩,
        ⟨some 69,.sq sz (.t 66) (.t 68),none,[]⟩,
        ⟨some 70,.load sz true (.t 69),none,[]⟩,
        ⟨some 71,.j7 (.t 0),none,[]⟩,
        ⟨some 72,.j7 (.t 13),none,[]⟩,
        ⟨some 73,.sq sz (.t 71) (.t 72),none,[]⟩,
        ⟨some 74,.load sz true (.t 73),none,[]⟩,
        ⟨some 75,.sq sz (.t 61) (.t 62),none,[]⟩,
        ⟨none,.store sz (.t 75) (.t 70),none,[]⟩,
        ⟨some 76,.sq sz (.t 63) (.t 65),none,[]⟩,
        ⟨none,.store sz (.t 76) (.t 74),none,[]⟩] true []))) (
       .region [⟨some 59,.j7 (.t 13),none,[]⟩,
        ⟨some 60,.bin .add (.t 59) (.c (.int ab 1)),none,[]⟩,
        ⟨some 13,.j7 (.t 60),none,[]⟩] false []))))))))))) (
    .ret))))))))) (
  .skip))))) (
 (.seq (
  (.seq (
  .region [⟨some 77,.j7 (.t 3),none,[]⟩,
   ⟨some 78,.j7 (.t 2),none,[]⟩,
   ⟨some 79,.bin .sub (.t 77) (.t 78),none,[]⟩,
   ⟨some 80,.bin .eql (.t 79) (.c (.int ab 1)),none,[]⟩] false []) (
  (.cond (.t 80) (
   (.seq (
   .region [⟨some 81,.j7 (.t 1),none,[]⟩,
    ⟨some 14,.j7 (.t 81),none,[]⟩] false []) (
   (.seq (
    .region [⟨some 82,.j7 (.t 2),none,[]⟩,
     ⟨some 15,.j7 (.t 82),none,[]⟩] false []) (
    (.seq (
    (.block 4 (
     (.loop (
     (.seq (
      (.seq (
      .region [⟨some 83,.j7 (.t 14),none,[]⟩,
       ⟨some 84,.j7 (.t 15),none,[]⟩,
       ⟨some 85,.bin .lss (.t 83) (.t 84),none,[]⟩] false []) (
      (.cond (.t 85) (
       .skip) (
       .exit 4))))) (
      (.block 5 (
      (.seq (
       .region [⟨some 86,.j7 (.t 14),none,[]⟩,
        ⟨some 87,.j7 (.t 15),none,[]⟩,
        ⟨some 88,.bin .add (.t 86) (.t 87),none,[]⟩,
        ⟨some 89,.conv .u64 (.t 88),none,[]⟩,
        ⟨some 90,.bin .shr (.t 89) (.c (.int .u64 1)),none,[]⟩,
        ⟨some 91,.conv ab (.t 90),none,[]⟩,
        ⟨some 16,.j7 (.t 91),none,[]⟩] false []) (
       (.seq (
       .region [⟨some 92,.j7 (.t 4),none,[]⟩,
        ⟨some 93,.j7 (.t 0),none,[]⟩,
        ⟨some 94,.j7 (.t 2),none,[]⟩,
        ⟨some 95,.sq sz (.t 93) (.t 94),none,[]⟩,
        ⟨some 96,.load sz true (.t 95),none,[]⟩,
        ⟨some 97,.j7 (.t 0),none,[]⟩,
        ⟨some 98,.j7 (.t 16),none,[]⟩,
        ⟨some 99,.sq sz (.t 97) (.t 98),none,[]⟩,
        ⟨some 100,.load sz true (.t 99),none,[]⟩,
        ⟨some 101,.wv (.t 92) [(.t 96),(.t 100)],none,[]⟩,
        ⟨some 102,.bin .lss (.t 101) (.c (.int ab 0)),none,[]⟩,
        ⟨some 103,.un .not (.t 102),none,[]⟩] true []) (
       (.cond (.t 103) (
        .region [⟨some 104,.j7 (.t 16),none,[]⟩,
         ⟨some 105,.bin .add (.t 104) (.c (.int ab 1)),none,[]⟩,
         ⟨some 14,.j7 (.t 105),none,[]⟩] false []) (
        .region [⟨some 106,.j7 (.t 16),none,[]⟩,
         ⟨some 15,.j7 (.t 106),none,[]⟩] false []))))))))))))))) (
    (.seq (
     (.seq (
     .region [⟨some 107,.j7 (.t 2),none,[]⟩,
      ⟨some 17,.j7 (.t 107),none,[]⟩] false []) (
     (.block 6 (
      (.loop (
      (.seq (
       (.seq (
       .region [⟨some 108,.j7 (.t 17),none,[]⟩,
        ⟨some 109,.j7 (.t 14),none,[]⟩,
        ⟨some 110,.bin .gtr (.t 108) (.t 109),none,[]⟩] false []) (
       (.cond (.t 110) (
        .skip) (
        .exit 6))))) (
       (.seq (
       (.block 7 (
        .region [⟨some 113,.j7 (.t 0),none,[]⟩,
         ⟨some 114,.j7 (.t 17),none,[]⟩,
         ⟨some 115,.j7 (.t 0),none,[]⟩,
         ⟨some 116,.j7 (.t 17),none,[]⟩,
         ⟨some 117,.bin .sub (.t 116) (.c (.int ab 1)),none,[]⟩,
         ⟨some 118,.j7 (.t 0),none,[]⟩,
         ⟨some 119,.j7 (.t 17),none,[]⟩,
         ⟨some 120,.bin .sub (.t 119) (.c (.int ab 1)),none,[]⟩,
         ⟨some 121,.sq sz (.t 118) (.t 120),none,[]⟩,
         ⟨some 122,.load sz true (.t 121),none,[]⟩,
         ⟨some 123,.j7 (.t 0),none,[]⟩,
         ⟨some 124,.j7 (.t 17),none,[]⟩,
         ⟨some 125,.sq sz (.t 123) (.t 124),none,[]⟩,
         ⟨some 126,.load sz true (.t 125),none,[]⟩,
         ⟨some 127,.sq sz (.t 113) (.t 114),none,[]⟩,
         ⟨none,.store sz (.t 127) (.t 122),none,[]⟩,
         ⟨some 128,.sq sz (.t 115) (.t 117),none,[]⟩,
         ⟨none,.store sz (.t 128) (.t 126),none,[]⟩] true []))) (
       .region [⟨some 111,.j7 (.t 17),none,[]⟩,
        ⟨some 112,.bin .sub (.t 111) (.c (.int ab 1)),none,[]⟩,
        ⟨some 17,.j7 (.t 112),none,[]⟩] false []))))))))))) (
     .ret))))))))) (
   .skip))))) (
  (.seq (
  .region [⟨some 129,.j7 (.t 1),none,[]⟩,
   ⟨some 130,.j7 (.t 3),none,[]⟩,
   ⟨some 131,.bin .add (.t 129) (.t 130),none,[]⟩,
   ⟨some 132,.conv .u64 (.t 131),none,[]⟩,
   ⟨some 133,.bin .shr (.t 132) (.c (.int .u64 1)),none,[]⟩,
   ⟨some 134,.conv ab (.t 133),none,[]⟩,
   ⟨some 18,.j7 (.t 134),none,[]⟩] false []) (
  (.seq (
   .region [⟨some 135,.j7 (.t 18),none,[]⟩,
    ⟨some 136,.j7 (.t 2),none,[]⟩,
    ⟨some 137,.bin .add (.t 135) (.t 136),none,[]⟩,
    ⟨some 19,.j7 (.t 137),none,[]⟩] false []) (
   (.seq (
   .region [⟨some 20,.j7 (.c (.int ab 0)),none,[]⟩,
    ⟨some 21,.j7 (.c (.int ab 0)),none,[]⟩] false []) (
   (.seq (
    (.seq (
    .region [⟨some 138,.j7 (.t 2),none,[]⟩,
     ⟨some 139,.j7 (.t 18),none,[]⟩,
     ⟨some 140,.bin .gtr (.t 138) (.t 139),none,[]⟩] false []) (
    (.cond (.t 140) (
     (.seq (
     .region [⟨some 141,.j7 (.t 19),none,[]⟩,
      ⟨some 142,.j7 (.t 3),none,[]⟩,
      ⟨some 143,.bin .sub (.t 141) (.t 142),none,[]⟩,
      ⟨some 20,.j7 (.t 143),none,[]⟩] false []) (
     .region [⟨some 144,.j7 (.t 18),none,[]⟩,
      ⟨some 21,.j7 (.t 144),none,[]⟩] false []))) (
     (.seq (
     .region [⟨some 145,.j7 (.t 1),none,[]⟩,
      ⟨some 20,.j7 (.t 145),none,[]⟩] false []) (
     .region [⟨some 146,.j7 (.t 2),none,[]⟩,
      ⟨some 21,.j7 (.t 146),none,[]⟩] false []))))))) (
    (.seq (
    .region [⟨some 147,.j7 (.t 19),none,[]⟩,
     ⟨some 148,.bin .sub (.t 147) (.c (.int ab 1)),none,[]⟩,
     ⟨some 22,.j7 (.t 148),none,[]⟩] false []) (
    (.seq (
     (.block 8 (
     (.loop (
      (.seq (
      (.seq (
       .region [⟨some 149,.j7 (.t 20),none,[]⟩,
        ⟨some 150,.j7 (.t 21),none,[]⟩,
        ⟨some 151,.bin .lss (.t 149) (.t 150),none,[]⟩] false []) (
       (.cond (.t 151) (
       .skip) (
       .exit 8))))) (
      (.block 9 (
       (.seq (
       .region [⟨some 152,.j7 (.t 20),none,[]⟩,
        ⟨some 153,.j7 (.t 21),none,[]⟩,
        ⟨some 154,.bin .add (.t 152) (.t 153),none,[]⟩,
        ⟨some 155,.conv .u64 (.t 154),none,[]⟩,
        ⟨some 156,.bin .shr (.t 155) (.c (.int .u64 1)),none,[]⟩,
        ⟨some 157,.conv ab (.t 156),none,[]⟩,
        ⟨some 23,.j7 (.t 157),none,[]⟩] false []) (
       (.seq (
        .region [⟨some 158,.j7 (.t 4),none,[]⟩,
         ⟨some 159,.j7 (.t 0),none,[]⟩,
         ⟨some 160,.j7 (.t 22),none,[]⟩,
         ⟨some 161,.j7 (.t 23),none,[]⟩,
         ⟨some 162,.bin .sub (.t 160) (.t 161),none,[]⟩,
         ⟨some 163,.sq sz (.t 159) (.t 162),none,[]⟩,
         ⟨some 164,.load sz true (.t 163),none,[]⟩,
         ⟨some 165,.j7 (.t 0),none,[]⟩,
         ⟨some 166,.j7 (.t 23),none,[]⟩,
         ⟨some 167,.sq sz (.t 165) (.t 166),none,[]⟩,
         ⟨some 168,.load sz true (.t 167),none,[]⟩,
         ⟨some 169,.wv (.t 158) [(.t 164),(.t 168)],none,[]⟩,
         ⟨some 170,.bin .lss (.t 169) (.c (.int ab 0)),none,[]⟩,
         ⟨some 171,.un .not (.t 170),none,[]⟩] true []) (
        (.cond (.t 171) (
        .region [⟨some 172,.j7 (.t 23),none,[]⟩,
         ⟨some 173,.bin .add (.t 172) (.c (.int ab 1)),none,[]⟩,
         ⟨some 20,.j7 (.t 173),none,[]⟩] false []) (
        .region [⟨some 174,.j7 (.t 23),none,[]⟩,
         ⟨some 21,.j7 (.t 174),none,[]⟩] false []))))))))))))))) (
     (.seq (
     .region [⟨some 175,.j7 (.t 19),none,[]⟩,
      ⟨some 176,.j7 (.t 20),none,[]⟩,
      ⟨some 177,.bin .sub (.t 175) (.t 176),none,[]⟩,
      ⟨some 24,.j7 (.t 177),none,[]⟩] false []) (
     (.seq (
      (.seq (
      .region [⟨some 178,.j7 (.t 20),none,[]⟩,
       ⟨some 179,.j7 (.t 2),none,[]⟩,
       ⟨some 180,.bin .lss (.t 178) (.t 179),none,[]⟩,
       ⟨some 181,.j7 (.t 180),none,[]⟩,
       ⟨some 182,.j7 (.t 2),some (181,true),[]⟩,
       ⟨some 183,.j7 (.t 24),some (181,true),[]⟩,
       ⟨some 184,.bin .lss (.t 182) (.t 183),some (181,true),[]⟩,
       ⟨some 185,.pick (.t 181) (.t 184) (.c (.bool false)),none,[]⟩] false []) (
      (.cond (.t 185) (
       .region [⟨some 186,.j7 (.t 0),none,[]⟩,
        ⟨some 187,.j7 (.t 20),none,[]⟩,
        ⟨some 188,.j7 (.t 2),none,[]⟩,
        ⟨some 189,.j7 (.t 24),none,[]⟩,
        ⟨some 190,.j7 (.t 4),none,[]⟩,
        ⟨some 191,.call aE9 [(.t 186),(.t 187),(.t 188),(.t 189),(.t 190)],none,[]⟩] false []) (
       .skip))))) (
      (.seq (
      (.seq (
       .region [⟨some 192,.j7 (.t 1),none,[]⟩,
        ⟨some 193,.j7 (.t 20),none,[]⟩,
        ⟨some 194,.bin .lss (.t 192) (.t 193),none,[]⟩,
        ⟨some 195,.j7 (.t 194),none,[]⟩,
        ⟨some 196,.j7 (.t 20),some (195,true),[]⟩,
        ⟨some 197,.j7 (.t 18),some (195,true),[]⟩,
        ⟨some 198,.bin .lss (.t 196) (.t 197),some (195,true),[]⟩,
        ⟨some 199,.pick (.t 195) (.t 198) (.c (.bool false)),none,[]⟩] false []) (
       (.cond (.t 199) (
       .region [⟨some 200,.j7 (.t 0),none,[]⟩,
        ⟨some 201,.j7 (.t 1),none,[]⟩,
        ⟨some 202,.j7 (.t 20),none,[]⟩,
        ⟨some 203,.j7 (.t 18),none,[]⟩,
        ⟨some 204,.j7 (.t 4),none,[]⟩,
        ⟨some 205,.call afw [(.t 200),(.t 201),(.t 202),(.t 203),(.t 204)],none,[]⟩] false []) (
       .skip))))) (
      (.seq (
       .region [⟨some 206,.j7 (.t 18),none,[]⟩,
        ⟨some 207,.j7 (.t 24),none,[]⟩,
        ⟨some 208,.bin .lss (.t 206) (.t 207),none,[]⟩,
        ⟨some 209,.j7 (.t 208),none,[]⟩,
        ⟨some 210,.j7 (.t 24),some (209,true),[]⟩,
        ⟨some 211,.j7 (.t 3),some (209,true),[]⟩,
        ⟨some 212,.bin .lss (.t 210) (.t 211),some (209,true),[]⟩,
        ⟨some 213,.pick (.t 209) (.t 212) (.c (.bool false)),none,[]⟩] false []) (
       (.cond (.t 213) (
       .region [⟨some 214,.j7 (.t 0),none,[]⟩,
        ⟨some 215,.j7 (.t 18),none,[]⟩,
        ⟨some 216,.j7 (.t 24),none,[]⟩,
        ⟨some 217,.j7 (.t 3),none,[]⟩,
        ⟨some 218,.j7 (.t 4),none,[]⟩,
        ⟨some 219,.call afw [(.t 214),(.t 215),(.t 216),(.t 217),(.t 218)],none,[]⟩] false []) (
       .skip))))))))))))))))))))))))))
def aBz{α:Type}(m:Mem)(b id q sz g:Nat)(ce:α→List D)(n:Nat)(W:List α)(s':PS):Prop:=
 s'.base=b∧s'.tmp 0= .ref id (m.av id) (n+1)∧s'.tmp 2= .d (.int ab n)∧s'.tmp 4= .nu g [(q,m.av q)]∧s'.av=m.av∧s'.mp=m.mp∧s'.da=lb m.da id (some (.arr sz (W.map ce)))
theorem aA1{n:Nat}(h:n<2^63):IntKind.u64.wrap (n:Int)=n:=by
 unfold P1;simp only[IntKind.bits,aJq,dz,fk,ee];omega
section
variable{P:Program}
theorem avj(hm:P.follows .mixedOrders=true){f fr fs:Nat}{sz:Nat}(hf:ew P f {}=some (avk sz fr fs,[],220)){α:Type}{ce:α→List D}{key:α→ByteArray}(B6:∀x,(ce x).length=sz)(Ae:∀x,(ce x).all D.one=true){g q qv:Nat}{X:D}
  (aff:∀x y,iq P g [.agg (ce x),.agg (ce y),.te [X] 0] (.int ab (byC (key x) (key y)))){m:Mem}{id av:Nat}{S:List α}{x:α}(hl:S.length≤2^30)(h1:S.length≠1)(hS:ad3 key S)(hb:m.da id=some (.arr sz ((S++[x]).map ce)))(hv:m.av id=av)
  (hq:m.da q=some (.loc [.d X]))(hqv:m.av q=qv)(hne:id≠q)(b:Nat):
  qz P f m [.ref id av (S.length+1),.d (.int ab 0),.d (.int ab S.length),.d (.int ab ((S.length+1:Nat):Int)),.nu g [(q,qv)]] (m.put id av (.arr sz ((uk key S.reverse x).reverse.map ce))) (.Aa []):=by
 subst hv hqv;refine mq hm hf (by simp) b (fun c=>?_) (Mem.La (ay _)) Mem.Pu (fun i es hi=> .inl hi) (by simp[Gu]);show ko P (avk sz fr fs) (Bq m [] _ _) _;have w0:=cu ((S.length:Int)-0) (by omega) (by omega);have w1:=cu (((S.length+1:Nat):Int)-S.length) (by omega) (by omega)
 have e1:((S.length:Int)-0==1)=false:=by rw[beq_eq_false_iff_ne];omega
 have e2:(((S.length+1:Nat):Int)-S.length==1)=true:=by rw[beq_iff_eq];omega
 simp only[avk,enter,go_sem,aa,reduceCtorEq,w0,w1,e1,e2]
 have azb:((S++[x]).map ce).length=S.length+1:=by simp
 have aI2:(S++[x]).length=S.length+1:=by simp
 have afe:∀x,(ce x).drop sz=[]:=fun x=>Sk (by rw[B6];exact ay _)
 have aBg:∀x y,(ce x).drop (ce y).length=[]:=fun x y=>by rw[B6];exact afe x
 have a52:∀x,(ce x).take sz=ce x:=fun x=>tz (by rw[B6];exact ay _)
 have hall:∀(s:PS) x,((ce x).map C.d).all (C.one s)=true:=fun s x=>by
  have:=Ae x;rw[cz]at this⊢;intro c hc;obtain⟨d,hd,rfl⟩:=iw.1 hc;exact this d hd
 have gx:((S++[x]).map ce)[S.length]? =some (ce x):=by simp
 have gS:∀h (hh:h<S.length),((S++[x]).map ce)[h]? =some (ce S[h]):=fun h hh=>by
  rw[cw,l8 hh,ax hh];rfl
 have up:∀h h' (hh:h<S.length) (hh':h'<S.length),h≤h'→strLt (key x) (key S[h])=true→strLt (key x) (key S[h'])=true:=fun h h' hh hh' hle hx=>by
  rcases Nat.lt_or_eq_of_le hle with h2|h2
  ·exact apv hx ((Bt.1 hS) h h' hh hh' h2)
  subst h2;exact hx
 refine Ze (i:=4) (fun s2=>∃i,i≤S.length∧aBz m b id q sz g ce S.length (S++[x]) s2∧s2.tmp 14= .d (.int ab i)∧(∀y∈S.take i,strLt (key x) (key y)=false)∧∀y∈S.drop i,strLt (key x) (key y)=true) ?_ ?_
 ·refine fh S.length (fun k s2=>∃i j,i≤j∧j≤S.length∧(j-i)+k≤S.length∧aBz m b id q sz g ce S.length (S++[x]) s2∧s2.tmp 14= .d (.int ab i)∧s2.tmp 15= .d (.int ab j)∧(∀h (hh:h<S.length),h<i→strLt (key x) (key S[h])=false)∧∀h (hh:h<S.length),j≤h→strLt (key x) (key S[h])=true) ?_ ?_
  ·refine⟨0,S.length,a3g _,ay _,by omega,⟨rfl,?_,?_,?_,rfl,rfl,?_⟩,?_,?_,fun h _ h2=>absurd h2 (by omega),fun h hh h2=>absurd h2 (by omega)⟩
   ·simp only[ak,aa,ee];rfl
   ·simp only[ak,aa,ee];rfl
   ·simp only[ak,aa,ee];rfl
   ·funext i
    simp only[ak];split
    ·rename_i h;rw[h];exact hb
    rfl
   ·simp only[ak,aa,ee,dj];rfl
   simp only[ak,aa,ee,dj]
  rintro k s2 hk ⟨i,j,Io,hj,hd,⟨eb,f0,f2,f4,ev,emp,ebl⟩,f14,f15,lo,hi⟩
  have hbi:s2.da id=some (.arr sz ((S++[x]).map ce)):=by rw[ebl,ck]
  have hbq:s2.da q=some (.loc [.d X]):=by rw[ebl,gu _ _ _ _ hne.symm];exact hq
  by_cases hlt:(i:Int)<j
  ·have df:i<j:=by omega
   have wa:=cu ((i:Int)+j) (by omega) (by omega)
   have wu:IntKind.u64.wrap ((i:Int)+j)=((i+j:Nat):Int):=by
    have:=aA1 (n:=i+j) (by omega);rw[←this];congr 1
   have wf:(((i+j:Nat):Int).fdiv (2^(min 1 64:Nat)))=((i+j)/2:Nat):=by
    rw[Int.fdiv_eq_ediv_of_nonneg _ (by decide)];rfl
   have wi:=cu (((i+j)/2:Nat):Int) (by omega) (by omega);obtain⟨h,hh⟩:∃h,h=(i+j)/2:=⟨_,rfl⟩;rw[←hh]at wf wi
   have hhS:h<S.length:=by omega
   have gh:=gS h hhS
   have hhI:(h:Int)<((S.length+1:Nat):Int):=by omega
   have hSI:((S.length:Nat):Int)<((S.length+1:Nat):Int):=by omega
   have wh1:=cu ((h:Int)+1) (by omega) (by omega);have hc:=aff x S[h];simp only[go_sem,aa,dc,dv,reduceCtorEq,f0,f2,f4,f14,f15,hlt,wa,wu,wf,wi,ev,hbi,hbq,azb,hhI,hSI,gx,gh,B6,a52,bp,aq,mkd,nj,rb];refine a0r hc rfl ?_;cases abx:strLt (key x) (key S[h])
   ·have aiu:¬(byC (key x) (key S[h])<0):=by rw[a3f,abx];simp
    simp only[go_sem,aa,reduceCtorEq,f14,f15,aiu,wh1];refine⟨by omega,h+1,j,by omega,hj,by omega,⟨eb,f0,f2,f4,rfl,emp,ebl⟩,by rw[Sl];rfl,rfl,fun h' hh' h2=>?_,hi⟩;cases q2:strLt (key x) (key S[h'])
    ·rfl
    have:=up h' h hh' hhS (by omega) q2;rw[abx]at this;cases this
   have aiu:byC (key x) (key S[h])<0:=by rw[a3f,abx]
   simp only[go_sem,aa,reduceCtorEq,f14,f15,aiu];exact⟨by omega,i,h,by omega,by omega,by omega,⟨eb,f0,f2,f4,rfl,emp,ebl⟩,rfl,rfl,lo,fun h' hh' h2=>up h h' hhS hh' h2 abx⟩
  have aGi:i=j:=by omega
  subst aGi;simp only[go_sem,aa,reduceCtorEq,f2,f14,f15,hlt];refine⟨i,hj,⟨eb,f0,f2,f4,ev,emp,ebl⟩,rfl,fun y hy=>?_,fun y hy=>?_⟩
  ·obtain⟨h,hh,rfl⟩:=i6.1 hy;simp only[dw]at hh;rw[a2u];exact lo h (by omega) (by omega)
  obtain⟨h,hh,rfl⟩:=i6.1 hy;simp only[uv]at hh;rw[List.getElem_drop];exact hi (i+h) (by omega) (by omega)
 rintro s2 ⟨i,hiS,⟨eb,f0,f2,f4,ev,emp,ebl⟩,f14,lo,hiB⟩;have Nb:=ahb key lo hiB;simp only[go_sem,f2];refine Ze (i:=6) (fun s3=>s3.av=m.av∧s3.mp=m.mp∧s3.da=lb m.da id (some (.arr sz ((uk key S.reverse x).reverse.map ce)))) ?_ ?_
 ·refine fh (S.length-i) (fun r s3=>r≤S.length-i∧aBz m b id q sz g ce S.length (S.take (S.length-r)++x::S.drop (S.length-r)) s3∧s3.tmp 14= .d (.int ab i)∧s3.tmp 17= .d (.int ab ((S.length-r:Nat):Int))) ?_ ?_
  ·refine⟨a3g _,⟨eb,?_,?_,?_,ev,emp,?_⟩,?_,?_⟩
   ·simp only[ak,aa,ee];exact f0
   ·simp only[ak,aa,ee];exact f2
   ·simp only[ak,aa,ee];exact f4
   ·show s2.da=_;rw[ebl,Uy,dt,am2]
   ·simp only[ak,aa,ee];exact f14
   simp only[ak,aa,ee,dj];rfl
  clear eb f0 f2 f4 ev emp ebl f14;rintro r s3 hr ⟨_,⟨eb,f0,f2,f4,ev,emp,ebl⟩,f14,f17⟩;by_cases hlt:((S.length-r:Nat):Int)>i
  ·obtain⟨F,hF⟩:∃F,F=S.take (S.length-r-1):=⟨_,rfl⟩;obtain⟨R,hR⟩:∃R,R=S.drop (S.length-r):=⟨_,rfl⟩
   have hFl:F.length=S.length-r-1:=by rw[hF,dw];omega
   have hk1:S.length-r=F.length+1:=by omega
   have hFS:F.length<S.length:=by omega
   obtain⟨y,hy⟩:∃y,y=S[F.length]:=⟨_,rfl⟩
   have hW2:S.take (S.length-r)++x::S.drop (S.length-r)=F++y::x::R:=by
    rw[←hR,hk1,fm,ax hFS,←hy,hF];simp only[alv,oq,xz,N1]
    congr 2
    rw[dw];omega
   have hW3:F++x::y::R=S.take (S.length-(r+1))++x::S.drop (S.length-(r+1)):=by
    have e1:S.length-(r+1)=F.length:=by omega
    have e2:S.drop F.length=y::S.drop (F.length+1):=by rw[hy];exact jq hFS
    rw[e1,e2,hR,hk1]
    congr 1
    rw[hF,dw]
    congr 1
    omega
   rw[hW2]at ebl;rw[hk1]at f17 hlt
   have hRl:R.length=r:=by rw[hR];simp only[uv];omega
   have wj:=cu (((F.length+1:Nat):Int)-1) (by omega) (by omega)
   have wj2:((F.length+1:Nat):Int)-1=(F.length:Int):=by omega
   rw[wj2]at wj;have g0:=at0 ce F R x y;have g1:=at1 ce F R x y
   have hl1:((F.length+1:Nat):Int)<((S.length+1:Nat):Int):=by omega
   have hl2:(F.length:Int)<((S.length+1:Nat):Int):=by omega
   have hn1:F.length+1<S.length+1:=by omega
   have hbi:s3.da id=some (.arr sz ((F++y::x::R).map ce)):=by rw[ebl,ck]
   have axv:((F++y::x::R).map ce).length=S.length+1:=by
    have h6:=congrArg a3h hW2;simp only[db,ca,dw,uv]at h6;simp only[ag,db,ca];omega
   generalize hM:(F++y::x::R).map ce=M at*
   have g2:(M.set (F.length+1) (ce y))[F.length]? =some (ce y):=by rw[Da,al (by omega)];exact g0
   have a7q:(M.set (F.length+1) (ce y)).set F.length (ce x)=(F++x::y::R).map ce:=by
    rw[←hM,Xj,Xj,adi]
   simp only[go_sem,aa,reduceCtorEq,f0,f14,f17,hlt,ev,hbi,axv,wj,wj2,hl1,hl2,g0,g1,B6,a52,bp,aq,mkd,Yz,hall,afe,av4,g2,a7q];refine⟨by omega,by omega,⟨eb,f0,f2,f4,rfl,emp,?_⟩,?_⟩
   ·show lb _ _ _=lb _ _ _;rw[ebl,hW3]
    funext i
    simp only[ak];split<;>rfl
   rw[show S.length-(r+1)=F.length by omega]
  have hri:S.length-r=i:=by omega
  simp only[go_sem,aa,reduceCtorEq,f14,f17,hlt];refine⟨ev,emp,?_⟩;rw[ebl,hri,←Nb]
 rintro s3 ⟨ev,emp,ebl⟩;simp only[go_sem,sv,J2];intro i;simp only[Mem.put,PS.mem,ev,emp,ebl,ak];by_cases hi:i=id
 ·subst hi;simp
 simp[hi]
end
def a8x(azg afw:Nat):di:=
 (.seq (
 .region [⟨some 6,.j7 (.c (.int ab 20)),none,[]⟩] false []) (
 (.seq (
  .region [⟨some 10,.j7 (.t 6),none,[]⟩,
   ⟨some 7,.j7 (.c (.int ab 0)),none,[]⟩,
   ⟨some 8,.j7 (.t 10),none,[]⟩] false []) (
  (.seq (
  (.block 0 (
   (.loop (
   (.seq (
    (.seq (
    .region [⟨some 11,.j7 (.t 8),none,[]⟩,
     ⟨some 12,.j7 (.t 1),none,[]⟩,
     ⟨some 13,.bin .leq (.t 11) (.t 12),none,[]⟩] false []) (
    (.cond (.t 13) (
     .skip) (
     .exit 0))))) (
    (.block 1 (
    (.seq (
     .region [⟨some 14,.j7 (.t 0),none,[]⟩,
      ⟨some 15,.j7 (.t 7),none,[]⟩,
      ⟨some 16,.j7 (.t 8),none,[]⟩,
      ⟨some 17,.j7 (.t 2),none,[]⟩,
      ⟨some 18,.qb azg [(.t 14),(.t 15),(.t 16),(.t 17)],none,[]⟩] false []) (
     (.seq (
     .region [⟨some 19,.j7 (.t 8),none,[]⟩,
      ⟨some 7,.j7 (.t 19),none,[]⟩] false []) (
     .region [⟨some 20,.j7 (.t 8),none,[]⟩,
      ⟨some 21,.j7 (.t 6),none,[]⟩,
      ⟨some 22,.bin .add (.t 20) (.t 21),none,[]⟩,
      ⟨some 8,.j7 (.t 22),none,[]⟩] false []))))))))))))) (
  (.seq (
   .region [⟨some 23,.j7 (.t 0),none,[]⟩,
    ⟨some 24,.j7 (.t 7),none,[]⟩,
    ⟨some 25,.j7 (.t 1),none,[]⟩,
    ⟨some 26,.j7 (.t 2),none,[]⟩,
    ⟨some 27,.qb azg [(.t 23),(.t 24),(.t 25),(.t 26)],none,[]⟩] false []) (
   (.block 2 (
   (.loop (
    (.seq (
    (.seq (
     .region [⟨some 28,.j7 (.t 6),none,[]⟩,
      ⟨some 29,.j7 (.t 1),none,[]⟩,
      ⟨some 30,.bin .lss (.t 28) (.t 29),none,[]⟩] false []) (
     (.cond (.t 30) (
     .skip) (
     .exit 2))))) (
    (.block 3 (
     (.seq (
     .region [⟨some 31,.j7 (.t 6),none,[]⟩,
      ⟨some 32,.bin .mul (.c (.int ab 2)) (.t 31),none,[]⟩,
      ⟨some 7,.j7 (.c (.int ab 0)),none,[]⟩,
      ⟨some 8,.j7 (.t 32),none,[]⟩] false []) (
     (.seq (
      (.block 4 (
      (.loop (
       (.seq (
       (.seq (
        .region [⟨some 33,.j7 (.t 8),none,[]⟩,
         ⟨some 34,.j7 (.t 1),none,[]⟩,
         ⟨some 35,.bin .leq (.t 33) (.t 34),none,[]⟩] false []) (
        (.cond (.t 35) (
        .skip) (
        .exit 4))))) (
       (.block 5 (
        (.seq (
        .region [⟨some 36,.j7 (.t 0),none,[]⟩,
         ⟨some 37,.j7 (.t 7),none,[]⟩,
         ⟨some 38,.j7 (.t 7),none,[]⟩,
         ⟨some 39,.j7 (.t 6),none,[]⟩,
         ⟨some 40,.bin .add (.t 38) (.t 39),none,[]⟩,
         ⟨some 41,.j7 (.t 8),none,[]⟩,
         ⟨some 42,.j7 (.t 2),none,[]⟩,
         ⟨some 43,.qb afw [(.t 36),(.t 37),(.t 40),(.t 41),(.t 42)],none,[]⟩] false []) (
        (.seq (
         .region [⟨some 44,.j7 (.t 8),none,[]⟩,
          ⟨some 7,.j7 (.t 44),none,[]⟩] false []) (
         .region [⟨some 45,.j7 (.t 8),none,[]⟩,
          ⟨some 46,.j7 (.t 6),none,[]⟩,
          ⟨some 47,.bin .mul (.c (.int ab 2)) (.t 46),none,[]⟩,
          ⟨some 48,.bin .add (.t 45) (.t 47),none,[]⟩,
          ⟨some 8,.j7 (.t 48),none,[]⟩] false []))))))))))))) (
      (.seq (
      (.seq (
       .region [⟨some 49,.j7 (.t 7),none,[]⟩,
        ⟨some 50,.j7 (.t 6),none,[]⟩,
        ⟨some 51,.bin .add (.t 49) (.t 50),none,[]⟩,
        ⟨some 9,.j7 (.t 51),none,[]⟩] false []) (
       (.seq (
       .region [⟨some 52,.j7 (.t 9),none,[]⟩,
        ⟨some 53,.j7 (.t 1),none,[]⟩,
        ⟨some 54,.bin .lss (.t 52) (.t 53),none,[]⟩] false []) (
       (.cond (.t 54) (
        .region [⟨some 55,.j7 (.t 0),none,[]⟩,
         ⟨some 56,.j7 (.t 7),none,[]⟩,
         ⟨some 57,.j7 (.t 9),none,[]⟩,
         ⟨some 58,.j7 (.t 1),none,[]⟩,
         ⟨some 59,.j7 (.t 2),none,[]⟩,
         ⟨some 60,.qb afw [(.t 55),(.t 56),(.t 57),(.t 58),(.t 59)],none,[]⟩] false []) (
        .skip))))))) (
      .region [⟨some 61,.j7 (.t 6),none,[]⟩,
       ⟨some 62,.bin .mul (.t 61) (.c (.int ab 2)),none,[]⟩,
       ⟨some 6,.j7 (.t 62),none,[]⟩] false []))))))))))))))))))))))
def Vy{α:Type}(m:Mem)(b id q sz g:Nat)(ce:α→List D)(n:Nat)(V:List α)(s':PS):Prop:=
 s'.base=b∧s'.tmp 0= .ref id (m.av id) n∧s'.tmp 1= .d (.int ab n)∧s'.tmp 2= .nu g [(q,m.av q)]∧s'.av=m.av∧s'.mp=m.mp∧s'.da=lb m.da id (some (.arr sz (V.map ce)))
section
variable{P:Program}
def aEs(l:List Nat):Ann:={imm:=[],uu:=[],ce:=[],cf:=[],cr:=l,kp:=[],cv:=[],dyn:=[],od:=[]}
theorem adm(hm:P.follows .mixedOrders=true){f fi fs fr fs2:Nat}{sz:Nat}(hf:ew P f (aEs [18,27,43,60])=some (a8x fi fs,[],63))(hfi:ew P fi {}=some (af8 sz,[],53))(hfs:ew P fs {}=some (avk sz fr fs2,[],220)){α:Type}{ce:α→List D}{key:α→ByteArray}(B6:∀x,(ce x).length=sz)(Ae:∀x,(ce x).all D.one=true){g q qv:Nat}{X:D}
  (aff:∀x y,iq P g [.agg (ce x),.agg (ce y),.te [X] 0] (.int ab (byC (key x) (key y)))){m:Mem}{id av:Nat}{W:List α}(hl:W.length≤21)(hb:m.da id=some (.arr sz (W.map ce)))(hv:m.av id=av)
  (hq:m.da q=some (.loc [.d X]))(hqv:m.av q=qv)(hne:id≠q)(b:Nat):
  qz P f m [.ref id av W.length,.d (.int ab W.length),.nu g [(q,qv)]] (m.put id av (.arr sz ((jf key W).map ce))) (.Aa []):=by
 subst hv hqv;refine mq hm hf (by simp) b (fun c=>?_) (Mem.La (ay _)) Mem.Pu (fun i es hi=> .inl hi) (by simp[Gu]);show ko P (a8x fi fs) (Bq m [] _ _) _
 have aiw:∀(mm:Mem) (V:List α) (a b':Nat),V.length=W.length→a≤b'→b'≤W.length→mm.da id=some (.arr sz (V.map ce))→mm.av=m.av→mm.da q=m.da q→qz P fi mm [.ref id (m.av id) W.length,.d (.int ab a),.d (.int ab b'),.nu g [(q,m.av q)]] (mm.put id (m.av id) (.arr sz ((V.take a++jf key ((V.drop a).take (b'-a))++V.drop b').map ce))) (.Aa []):=by
  intro mm V a b' h1 h2 h3 h4 h5 h6;rw[←h1];exact axj hm hfi B6 Ae aff h2 (by omega) (by omega) h4 (by rw[h5]) (by rw[h6];exact hq) (by rw[h5]) hne (b+100)
 have Va:∀(s':PS),s'.av=m.av→s'.mp=m.mp→s'.da=lb m.da id (some (.arr sz ((jf key W).map ce)))→Clean s'.mem (m.put id (m.av id) (.arr sz ((jf key W).map ce))):=by
  intro s' ev emp ebl i;simp only[Mem.put,PS.mem,ev,emp,ebl,ak];by_cases hi:i=id
  ·subst hi;simp
  simp[hi]
 have Q0:∀(mm:Mem) bb,mm.av=m.av→(mm.put id (m.av id) bb).av=m.av:=fun mm bb h=>by
  funext i
  simp only[Mem.put,ak,h];split
  ·rename_i h;rw[h]
  rfl
 simp only[a8x,enter,go_sem,aa]
 have aG1:lb m.da id (some (.arr sz (W.map ce)))=m.da:=by
  funext i
  simp only[ak];split
  ·rename_i h;subst h;exact hb.symm
  rfl
 have hqu:∀bb,lb m.da id bb q=m.da q:=fun bb=>gu _ _ _ _ hne.symm
 have K7:∀(s':PS) V,Vy m b id q sz g ce W.length V s'→s'.mem.da id=some (.arr sz (V.map ce))∧s'.mem.av=m.av∧s'.mem.da q=m.da q:=by
  rintro s' V ⟨_,_,_,_,ev,emp,ebl⟩;exact⟨by show s'.da id=_;rw[ebl,ck],ev,by show s'.da q=_;rw[ebl,hqu]⟩
 refine Ze (i:=0) (fun s'=>s'.tmp 6= .d (.int ab 20)∧((W.length<20∧Vy m b id q sz g ce W.length W s'∧s'.tmp 7= .d (.int ab 0))∨(20≤W.length∧Vy m b id q sz g ce W.length (jf key (W.take 20)++W.drop 20) s'∧s'.tmp 7= .d (.int ab 20)))) ?_ ?_
 ·refine fh 1 (fun k s'=>s'.tmp 6= .d (.int ab 20)∧((k=0∧Vy m b id q sz g ce W.length W s'∧s'.tmp 7= .d (.int ab 0)∧s'.tmp 8= .d (.int ab 20))∨(k=1∧20≤W.length∧Vy m b id q sz g ce W.length (jf key (W.take 20)++W.drop 20) s'∧s'.tmp 7= .d (.int ab 20)∧s'.tmp 8= .d (.int ab 40)))) ?_ ?_
  ·exact⟨rfl,.inl ⟨rfl,⟨rfl,rfl,rfl,rfl,rfl,rfl,aG1.symm⟩,rfl,rfl⟩⟩
  rintro k s' hk ⟨f6,h⟩;rcases h with ⟨rfl,hT,f7,f8⟩|⟨rfl,h20,hT,f7,f8⟩
  ·have hT2:=hT;obtain⟨eb,f0,f1,f2,ev,emp,ebl⟩:=hT2;by_cases h20:(20:Int)≤W.length
   ·have axw:20≤W.length:=by omega
    simp only[go_sem,aa,reduceCtorEq,f0,f1,f2,f7,f8,h20];obtain⟨q1,q2,q3⟩:=K7 s' W hT;refine kg (qz.toR (aiw _ W 0 20 rfl (by omega) axw q1 q2 q3)) ?_;rintro m' r ⟨rfl,rfl⟩
    have w40:ab.wrap 40=40:=by decide
    simp only[go_sem,aa,aF1,reduceCtorEq,PS.j0,PS.mem,Mem.put,f6,f7,f8,w40];refine⟨by omega,.inr ⟨axw,⟨eb,f0,f1,f2,?_,emp,?_⟩⟩⟩
    ·show lb s'.av _ _=m.av;exact Q0 s'.mem (.loc []) ev
    show lb s'.da _ _=_;rw[ebl]
    funext i
    simp only[ak,Uy];split<;>rfl
   have axw:W.length<20:=by omega
   simp only[go_sem,aa,reduceCtorEq,f1,f8,f6,f7,h20];exact .inl ⟨axw,eb,f0,f1,f2,ev,emp,ebl⟩
  have hT2:=hT;obtain⟨eb,f0,f1,f2,ev,emp,ebl⟩:=hT2
  have h40:¬((40:Int)≤W.length):=by omega
  simp only[go_sem,aa,reduceCtorEq,f1,f8,f6,f7,h40];exact .inr ⟨h20,eb,f0,f1,f2,ev,emp,ebl⟩
 intro s1 h1
 have aFx:s1.tmp 6= .d (.int ab 20)∧∃V a,V.length=W.length∧a≤W.length∧Vy m b id q sz g ce W.length V s1∧s1.tmp 7= .d (.int ab (a:Nat))∧V.take a++jf key ((V.drop a).take (W.length-a))++V.drop W.length=if W.length≤20 then jf key W else jf key (W.take 20)++W.drop 20:=by
  obtain⟨f6,h⟩:=h1;refine⟨f6,?_⟩;rcases h with ⟨h20,hT,f7⟩|⟨h20,hT,f7⟩
  ·refine⟨W,0,rfl,a3g _,hT,f7,?_⟩;rw[bm (by omega)];simp
  have hVl:(jf key (W.take 20)++W.drop 20).length=W.length:=by
   rw[db,ym,←db,Gv]
  have hil:(jf key (W.take 20)).length=20:=by rw[ym,dw];omega
  refine⟨_,20,hVl,h20,hT,f7,?_⟩;have e1:(jf key (W.take 20)++W.drop 20).take 20=jf key (W.take 20):=aJ0 hil;have e2:(jf key (W.take 20)++W.drop 20).drop 20=W.drop 20:=List.drop_left' hil;rw[e1,e2,a1l (aJl hVl),y0];by_cases h21:W.length≤20
  ·have e20:W.length=20:=by omega
   rw[bm h21,e20,a1l (aJl e20)];rw[tz (aJl e20)];show jf key W++jf key []=_;simp[jf]
  have e21:W.length=21:=by omega
  rw[al h21]
  have:W.drop 20=[W[20]]:=by
   rw[jq (by omega),a1l (by omega)]
  have e1':W.length-20=1:=by omega
  rw[this,e1'];rfl
 obtain⟨f6,V,a,hVl,ha,hT,f7,hV⟩:=aFx;have hT2:=hT;obtain⟨eb,f0,f1,f2,ev,emp,ebl⟩:=hT2;simp only[go_sem,aa,f0,f1,f2,f7];obtain⟨q1,q2,q3⟩:=K7 s1 V hT;refine kg (qz.toR (aiw _ V a W.length hVl ha (ay _) q1 q2 q3)) ?_;rintro m' r ⟨rfl,rfl⟩;rw[hV]
 generalize hV2:(if W.length≤20 then jf key W else jf key (W.take 20)++W.drop 20)=V2 at*
 simp only[go_sem,PS.j0,PS.mem,Mem.put];refine fh 1 (fun k s'=>(k=0∧Vy m b id q sz g ce W.length V2 s'∧s'.tmp 6= .d (.int ab 20))∨(k=1∧Vy m b id q sz g ce W.length (jf key W) s'∧s'.tmp 6= .d (.int ab 40))) ?_ ?_
 ·refine .inl ⟨rfl,⟨eb,f0,f1,f2,Q0 s1.mem (.loc []) ev,emp,?_⟩,f6⟩;show lb s1.da _ _=_;rw[ebl]
  funext i
  simp only[ak];split<;>rfl
 clear eb f0 f1 f2 ev emp ebl f6 f7;rintro k s2 hk h;rcases h with ⟨rfl,hT,f6⟩|⟨rfl,hT,f6⟩
 ·have hT2:=hT;obtain⟨eb,f0,f1,f2,ev,emp,ebl⟩:=hT2;by_cases h21:(20:Int)<W.length
  ·have e21:W.length=21:=by omega
   have w40:ab.wrap 40=40:=by decide
   have w20:ab.wrap 20=20:=by decide
   have h40:¬((40:Int)≤W.length):=by omega
   simp only[go_sem,aa,Int.reduceMul,reduceCtorEq,f1,f6,h21,w40];refine Ze (i:=4) (fun s3=>Vy m b id q sz g ce W.length V2 s3∧s3.tmp 6= .d (.int ab 20)∧s3.tmp 7= .d (.int ab 0)) ?_ ?_
   ·refine fh 0 (fun k s3=>Vy m b id q sz g ce W.length V2 s3∧s3.tmp 6= .d (.int ab 20)∧s3.tmp 7= .d (.int ab 0)∧s3.tmp 8= .d (.int ab 40)) ?_ ?_
    ·exact⟨⟨eb,f0,f1,f2,ev,emp,ebl⟩,f6,rfl,rfl⟩
    rintro k s3 _ ⟨⟨eb,f0,f1,f2,ev,emp,ebl⟩,f6,f7,f8⟩;simp only[go_sem,aa,aF1,reduceCtorEq,f1,f6,f7,f8,h40];exact⟨eb,f0,f1,f2,ev,emp,ebl⟩
   clear eb f0 f1 f2 ev emp ebl f6 hT;rintro s3 ⟨hT,f6,f7⟩;have hT2:=hT;obtain⟨eb,f0,f1,f2,ev,emp,ebl⟩:=hT2;obtain⟨q1,q2,q3⟩:=K7 s3 V2 hT
   have eV:V2=jf key (W.take 20)++[W[20]]:=by
    rw[←hV2,al (by omega),jq (by omega),a1l (show W.length≤20+1 by omega)]
   have hil:(jf key (W.take 20)).length=20:=by rw[ym,dw];omega
   rw[eV]at q1;have hsy:=avj hm hfs B6 Ae aff (m:=s3.mem) (id:=id) (av:=m.av id) (S:=jf key (W.take 20)) (x:=W[20]) (by omega) (by omega) (abu key _) q1 (by rw[q2]) (qv:=m.av q) (by rw[q3];exact hq) (by rw[q2]) hne (b+100);rw[hil]at hsy
   have Nb:(uk key (jf key (W.take 20)).reverse W[20]).reverse=jf key W:=by
    rw[←Ef]
    congr 1
    have:W.take 20++[W[20]]=W.take 21:=by
     have h:=fm (l:=W) (i:=20);rw[ax (show 20<W.length by omega)]at h;exact h.symm
    rw[this,tz (by omega)]
   rw[Nb]at hsy
   have aEg:((W.length:Nat):Int)=21:=by omega
   rw[e21]at f0;rw[aEg]at f1;simp only[go_sem,aa,dc,aF1,reduceCtorEq,f0,f1,f2,f6,f7,w20];refine kg (qz.toR hsy) ?_;rintro m' r ⟨rfl,rfl⟩;simp only[go_sem,aa,Int.reduceMul,reduceCtorEq,PS.j0,PS.mem,Mem.put,f6,w40];refine⟨by omega,.inr ⟨eb,?_,?_,f2,Q0 s3.mem (.loc []) ev,emp,?_⟩⟩
   ·rw[e21];exact f0
   ·show s3.tmp 1=_;rw[f1,aEg]
   show lb s3.da _ _=_;rw[ebl]
   funext i
   simp only[ak];split<;>rfl
  simp only[go_sem,aa,reduceCtorEq,f1,f6,h21,sv,J2];refine Va _ ev emp ?_;show s2.da=_;rw[ebl,←hV2,bm (by omega)]
 have hT2:=hT;obtain⟨eb,f0,f1,f2,ev,emp,ebl⟩:=hT2
 have h40:¬((40:Int)<W.length):=by omega
 simp only[go_sem,aa,reduceCtorEq,f1,f6,h40,sv,J2];exact Va _ ev emp ebl
end
section
variable{P:Program}
theorem axk(hm:P.follows .mixedOrders=true){f:Nat}{sz:Nat}(hf:ew P f {}=some (af8 sz,[],53))(m:Mem)(v:V)(hv:Gu m v)(b:Nat):qz P f m [.d .cq,.d (.int ab 0),.d (.int ab 0),v] m (.Aa []):=by
 refine mq hm hf (by simp) b (fun c=>?_) (fun i=>ay _) (fun i x hx=> .inl hx) (fun i es hi=> .inl hi) (by simp[Gu]);show ko P (af8 sz) (Bq m [] _ _) _
 have w1:ab.wrap 1=1:=by decide
 simp only[af8,enter,go_sem,aa,aF1,reduceCtorEq,w1];refine fh 0 (fun k s'=>s'.tmp 8= .d (.int ab 1)∧s'.tmp 2= .d (.int ab 0)∧s'.mem=m) ?_ ?_
 ·exact⟨rfl,rfl,rfl⟩
 rintro k s' _ ⟨f8,f2,hmm⟩;simp only[go_sem,aa,dc,reduceCtorEq,f8,f2,sv,J2];show Clean s'.mem m;rw[hmm];exact fun i=>⟨.inr ⟨rfl,rfl⟩,.inr ⟨rfl,rfl⟩⟩
theorem adn(hm:P.follows .mixedOrders=true){f fi fs:Nat}{sz:Nat}(hf:ew P f (aEs [18,27,43,60])=some (a8x fi fs,[],63))(hfi:ew P fi {}=some (af8 sz,[],53))(m:Mem)(v:V)(hv:Gu m v)(b:Nat):qz P f m [.d .cq,.d (.int ab 0),v] m (.Aa []):=by
 refine mq hm hf (by simp) b (fun c=>?_) (fun i=>ay _) (fun i x hx=> .inl hx) (fun i es hi=> .inl hi) (by simp[Gu]);show ko P (a8x fi fs) (Bq m [] _ _) _;simp only[a8x,enter,go_sem,aa];refine Ze (i:=0) (fun s'=>s'.tmp 0= .d .cq∧s'.tmp 1= .d (.int ab 0)∧s'.tmp 2=v∧s'.tmp 6= .d (.int ab 20)∧s'.tmp 7= .d (.int ab 0)∧s'.mem=m) ?_ ?_
 ·refine fh 0 (fun k s'=>s'.tmp 0= .d .cq∧s'.tmp 1= .d (.int ab 0)∧s'.tmp 2=v∧s'.tmp 6= .d (.int ab 20)∧s'.tmp 7= .d (.int ab 0)∧s'.tmp 8= .d (.int ab 20)∧s'.mem=m) ?_ ?_
  ·exact⟨rfl,rfl,rfl,rfl,rfl,rfl,rfl⟩
  rintro k s' _ ⟨f0,f1,f2,f6,f7,f8,hmm⟩;simp only[go_sem,aa,fp,reduceCtorEq,f0,f1,f2,f6,f7,f8];exact hmm
 rintro s1 ⟨f0,f1,f2,f6,f7,hmm⟩;simp only[go_sem,aa,f0,f1,f2,f7];refine kg (qz.toR (axk hm hfi _ v (by show Gu s1.mem v;rw[hmm];exact hv) (b+100))) ?_;rintro m' r ⟨rfl,rfl⟩;simp only[go_sem,PS.j0,PS.mem];refine fh 0 (fun k s'=>s'.tmp 1= .d (.int ab 0)∧s'.tmp 6= .d (.int ab 20)∧s'.mem=m) ?_ ?_
 ·refine⟨?_,?_,hmm⟩
  ·simp only[ak,aa,ee];exact f1
  simp only[ak,aa,ee];exact f6
 rintro k s' _ ⟨f1,f6,hmm⟩;simp only[go_sem,aa,dc,reduceCtorEq,f1,f6,sv,J2];show Clean s'.mem m;rw[hmm];exact fun i=>⟨.inr ⟨rfl,rfl⟩,.inr ⟨rfl,rfl⟩⟩
end
section
variable{P:Program}(A:Pr4 P)
theorem a3v(a b:ByteArray):iq P A.ma [.str a,.str b] (.int ab (byC a b)):=by
 refine du A.mo A.Ww (by simp) ?_;show ko P Bh (lg _ _) _;unfold byC;cases h1:strLt a b
 ·have h1':=h1;unfold strLt at h1';cases h2:kf a b
  ·have h2':=h2;unfold kf at h2';simp only[Bh,go_sem,aa,de,reduceCtorEq,h1',h2',Bool.or_self]
  have h2':=h2;unfold kf at h2';simp only[Bh,go_sem,aa,de,reduceCtorEq,h1',h2',aJ8]
 have h1':=h1;unfold strLt at h1';simp only[Bh,go_sem,aa,de,reduceCtorEq,h1']
theorem ahe(p q:Pm):iq P A.om [.agg (tx p),.agg (tx q),.te [.nu A.ma []] 0] (.int ab (byC p.n q.n)):=by
 refine du A.mo A.Wv (by simp) ?_;show ko P Hx (lg _ _) _;simp only[Hx,tx,go_sem,aa,ae,ah];refine O8 (a3v A p.n q.n) ?_;simp only[go_sem,aa]
theorem ahd(x y:WN):iq P A.oi [.agg (Fh x),.agg (Fh y),.te [.nu A.ma []] 0] (.int ab (byC x.n.n y.n.n)):=by
 refine du A.mo A.Wu (by simp) ?_;show ko P Hw (lg _ _) _;have ox:=x.ox;have oy:=x.oy;have px:=y.ox;have py:=y.oy;simp only[D.one]at ox oy px py;simp only[Hw,Fh,lj,go_sem,aa,ae,ah];refine il (a3v A x.n.n y.n.n) ?_;simp only[go_sem,aa]
theorem ayl(z:WN):(Fh z).all D.one=true:=by
 simp only[Fh,Vi,aJ5,z.ox,z.oy,Gy];rfl
theorem az0{m:Mem}{id av q qv:Nat}{ps:List Pm}(hl:ps.length≤21)(hb:m.da id=some (.arr 2 (ps.map tx)))(hv:m.av id=av)(hq:m.da q=some (.loc [.d (.nu A.ma [])]))(hqv:m.av q=qv)(hne:id≠q)(b:Nat):
  qz P A.iz m [.ref id av ps.length,.nu A.om [(q,qv)]] (m.put id av (.arr 2 ((jf Pm.n ps).map tx))) (.Aa []):=by
 subst hv hqv;refine mq A.mo A.zi (by simp) b (fun c=>?_) (Mem.La (ay _)) Mem.Pu (fun i es hi=> .inl hi) (by simp[Gu]);show ko P (mj A.lr) (Bq m [] _ _) _;simp only[mj,enter,go_sem,aa,reduceCtorEq,hb,ag];refine kg (qz.toR (adm A.mo (fi:=A.jb) (fs:=A.gp) A.Af A.wh A.Fw (ce:=tx) (key:=Pm.n) (fun _=>rfl) (fun _=>rfl) (ahe A) hl hb rfl hq rfl hne (b+100))) ?_;rintro m' r ⟨rfl,rfl⟩;simp only[go_sem,PS.j0,PS.mem,sv,J2];exact fun i=>⟨.inr ⟨rfl,rfl⟩,.inr ⟨rfl,rfl⟩⟩
theorem az1{m:Mem}{id av q qv:Nat}{zs:List WN}(hl:zs.length≤21)(hb:m.da id=some (.arr 5 (zs.map Fh)))(hv:m.av id=av)(hq:m.da q=some (.loc [.d (.nu A.ma [])]))(hqv:m.av q=qv)(hne:id≠q)(b:Nat):
  qz P A.j1 m [.ref id av zs.length,.nu A.oi [(q,qv)]] (m.put id av (.arr 5 ((jf (fun z=>z.n.n) zs).map Fh))) (.Aa []):=by
 subst hv hqv;refine mq A.mo A.Ag (by simp) b (fun c=>?_) (Mem.La (ay _)) Mem.Pu (fun i es hi=> .inl hi) (by simp[Gu]);show ko P (nk A.lv) (Bq m [] _ _) _;simp only[nk,enter,go_sem,aa,reduceCtorEq,hb,ag];refine kg (qz.toR (adm A.mo (fi:=A.jj) (fs:=A.i7) A.Ay A.xg A.Gd (ce:=Fh) (key:=fun z=>z.n.n) (fun _=>rfl) ayl (ahd A) hl hb rfl hq rfl hne (b+100))) ?_;rintro m' r ⟨rfl,rfl⟩;simp only[go_sem,PS.j0,PS.mem,sv,J2];exact fun i=>⟨.inr ⟨rfl,rfl⟩,.inr ⟨rfl,rfl⟩⟩
theorem adw(m:Mem)(q qv:Nat)(hq:qv≤m.av q)(b:Nat):qz P A.iz m [.d .cq,.nu A.om [(q,qv)]] m (.Aa []):=by
 refine mq A.mo A.zi (by simp) b (fun c=>?_) (fun i=>ay _) (fun i x hx=> .inl hx) (fun i es hi=> .inl hi) (by simp[Gu]);show ko P (mj A.lr) (Bq m [] _ _) _;simp only[mj,enter,go_sem,aa,reduceCtorEq];refine kg (qz.toR (adn A.mo (fi:=A.jb) (fs:=A.gp) (sz:=2) A.Af A.wh _ _ (by simpa[Gu,PS.mem]using hq) (b+100))) ?_;rintro m' r ⟨rfl,rfl⟩;simp only[go_sem,PS.j0,PS.mem,sv,J2];exact fun i=>⟨.inr ⟨rfl,rfl⟩,.inr ⟨rfl,rfl⟩⟩
theorem adx(m:Mem)(q qv:Nat)(hq:qv≤m.av q)(b:Nat):qz P A.j1 m [.d .cq,.nu A.oi [(q,qv)]] m (.Aa []):=by
 refine mq A.mo A.Ag (by simp) b (fun c=>?_) (fun i=>ay _) (fun i x hx=> .inl hx) (fun i es hi=> .inl hi) (by simp[Gu]);show ko P (nk A.lv) (Bq m [] _ _) _;simp only[nk,enter,go_sem,aa,reduceCtorEq];refine kg (qz.toR (adn A.mo (fi:=A.jj) (fs:=A.i7) (sz:=5) A.Ay A.xg _ _ (by simpa[Gu,PS.mem]using hq) (b+100))) ?_;rintro m' r ⟨rfl,rfl⟩;simp only[go_sem,PS.j0,PS.mem,sv,J2];exact fun i=>⟨.inr ⟨rfl,rfl⟩,.inr ⟨rfl,rfl⟩⟩
def Qg(m:Mem)(pid:Nat)(ps:List Pm)(cP:C):Mem:=if isRef cP=true then m.put pid (m.av pid) (.arr 2 ((jf Pm.n ps).map tx))else m
def Qh(m:Mem)(tg:Nat)(zs:List WN)(cN:C):Mem:=if isRef cN=true then m.put tg (m.av tg) (.arr 5 ((jf (fun z=>z.n.n) zs).map Fh))else m
theorem Ui{m:Mem}{b pid tg:Nat}{ps:List Pm}{zs:List WN}{cP cN:C}(hlp:ps.length≤21)(hln:zs.length≤21)(oP:Own m pid 2 (ps.map tx) cP)(oN:Own m tg 5 (zs.map Fh) cN)(hne:pid≠tg)(mh:w8 m b):
  qz P A.ra m [mkv true [cP,cN]] (Qh (Qg m pid ps cP) tg zs cN) (mkv true [cP,cN]):=by
 have hp:∀{x},m.da pid=some x→pid<b:=fun h=>mh.lt h;have hn:∀{x},m.da tg=some x→tg<b:=fun h=>mh.lt h
 have Va:∀(m2 s1:Mem),m2.av=m.av→m2.mp=m.mp→(∀i,b≤i→m2.da i=none)→(∀i,i<b→s1.av i=m.av i)→s1.mp=m.mp→(∀i,i<b→s1.da i=m2.da i)→Clean s1 m2:=by
  intro m2 s1 h1 h2 h3 h4 h5 h6;refine Aj (b:=b) (fun i hi=>⟨(h6 i hi).symm,?_,?_⟩) (fun i hi=>⟨.inl (h3 i hi),?_⟩)
  ·rw[h1,h4 i hi]
  ·rw[h2,h5]
  rw[h2];exact(mh i hi).2
 rcases oP with ⟨e1,rfl⟩|⟨rfl,hpb⟩<;>rcases oN with ⟨e2,rfl⟩|⟨rfl,hnb⟩
 ·have hmm:Qh (Qg m pid ps (.d .cq)) tg zs (.d .cq)=m:=by
   simp only[Qh,Qg,isRef,fk,ee]
  rw[hmm];have a1z:(jf Pm.n ps).length=ps.length:=ym _ _;have a27:(jf (fun z:WN=>z.n.n) zs).length=zs.length:=ym _ _
  have hv1:m.av=m.av:=by
   rfl
  have hb1:∀i,b≤i→m.da i=none:=fun i hi=>by
   exact(mh i hi).1
  have hw1:∀i x,m.da i=some x→m.da i=some x∨M4 m x:=fun i x hx=>by
   exact .inl hx
  refine mq A.mo A.Ge (by simp) b (fun c=>?_) (fun i=>by rw[hv1];exact ay _) hw1 (fun i es hi=> .inl hi) (Zl fun c hc=>?_);rotate_left
  ·simp only[dq,kh,or_false]at hc;rcases hc with rfl|rfl
   ·trivial
   trivial
  show ko P (sl A.ma A.om A.iz A.oi A.j1) (Bq m [.cell 2 2 true] _ _) _;simp only[sl,enter,go_sem,aa,ae,ah];refine kg (qz.toR (adw A _ _ _ ?_ (b+100))) ?_
  ·simp only[PS.mem,ck];exact ay _
  rintro m' r ⟨rfl,rfl⟩;simp only[go_sem,aa,ae,PS.j0,PS.mem];refine kg (qz.toR (adx A _ _ _ ?_ (b+100))) ?_
  ·simp only[PS.mem,ak]
   (try rw[al (by omega)])
   simp only[dj];exact ay _
  rintro m' r ⟨rfl,rfl⟩;simp only[go_sem,aa,ae,PS.j0,PS.mem,sv,Ac];refine Va _ _ hv1 rfl hb1 (fun i hi=>?_) ?_ (fun i hi=>?_)
  ·simp only[ak]
   (repeat' split)<;>first|rfl|omega|(subst_vars;first|rfl|omega)
  ·rfl
  simp only[ak]
  (repeat' split)<;>first|rfl|omega|(subst_vars;first|rfl|omega)
 ·have hmm:Qh (Qg m pid ps (.d .cq)) tg zs (.ref tg (m.av tg) (zs.map Fh).length)=(m.put tg (m.av tg) (.arr 5 ((jf (fun z=>z.n.n) zs).map Fh))):=by
   simp only[Qh,Qg,isRef,dj,fk,ee]
  rw[hmm];have a1z:(jf Pm.n ps).length=ps.length:=ym _ _;have a27:(jf (fun z:WN=>z.n.n) zs).length=zs.length:=ym _ _;have hnl:=hn hnb
  have hn3:tg≠b+3:=by omega
  have hn1:tg≠b+1:=by omega
  have hn2:tg≠b+2:=by omega
  have hv1:(m.put tg (m.av tg) (.arr 5 ((jf (fun z=>z.n.n) zs).map Fh))).av=m.av:=by
   funext i
   simp only[Mem.put,ak]
   (repeat' split)<;>first|rfl|(subst_vars;rfl)
  have hb1:∀i,b≤i→(m.put tg (m.av tg) (.arr 5 ((jf (fun z=>z.n.n) zs).map Fh))).da i=none:=fun i hi=>by
   simp only[Mem.put,ak]
   (repeat' rw[al (by omega)])
   exact(mh i hi).1
  have hw1:∀i x,(m.put tg (m.av tg) (.arr 5 ((jf (fun z=>z.n.n) zs).map Fh))).da i=some x→m.da i=some x∨M4 (m.put tg (m.av tg) (.arr 5 ((jf (fun z=>z.n.n) zs).map Fh))) x:=fun i x hx=>by
   simp only[Mem.put,ak]at hx
   (repeat' split at hx)<;>first|exact .inl hx|(injection hx with hx;subst hx;exact .inr trivial)
  refine mq A.mo A.Ge (by simp) b (fun c=>?_) (fun i=>by rw[hv1];exact ay _) hw1 (fun i es hi=> .inl hi) (Zl fun c hc=>?_);rotate_left
  ·simp only[dq,kh,or_false]at hc;rcases hc with rfl|rfl
   ·trivial
   show m.av tg≤(m.put tg (m.av tg) (.arr 5 ((jf (fun z=>z.n.n) zs).map Fh))).av tg;rw[hv1];exact ay _
  show ko P (sl A.ma A.om A.iz A.oi A.j1) (Bq m [.cell 2 2 true] _ _) _;simp only[sl,enter,go_sem,aa,ae,ah,ag];refine kg (qz.toR (adw A _ _ _ ?_ (b+100))) ?_
  ·simp only[PS.mem,ck];exact ay _
  rintro m' r ⟨rfl,rfl⟩;simp only[go_sem,aa,ae,PS.j0,PS.mem,Mem.put];refine kg (qz.toR (az1 A hln ?_ ?_ ?_ ?_ hn3 (b+100))) ?_
  ·simp only[PS.mem,ak]
   (repeat' rw[al (by omega)])
   exact hnb
  ·simp only[PS.mem,ak]
   (repeat' rw[al (by omega)])
  ·simp only[PS.mem,ak]
   (try rw[al (by omega)])
   simp only[dj]
  ·simp only[PS.mem,ak]
   (try rw[al (by omega)])
   simp only[dj]
  rintro m' r ⟨rfl,rfl⟩;simp only[go_sem,aa,ae,PS.j0,PS.mem,Mem.put,gq,ag,sv,Ac,hnb,hn3,hn1,hn2,hn1.symm,hn2.symm,a27];refine Va _ _ hv1 rfl hb1 (fun i hi=>?_) ?_ (fun i hi=>?_)
  ·simp only[ak]
   (repeat' split)<;>first|rfl|omega|(subst_vars;first|rfl|omega)
  ·rfl
  simp only[ak]
  (repeat' split)<;>first|rfl|omega|(subst_vars;first|rfl|omega)
 ·have hmm:Qh (Qg m pid ps (.ref pid (m.av pid) (ps.map tx).length)) tg zs (.d .cq)=(m.put pid (m.av pid) (.arr 2 ((jf Pm.n ps).map tx))):=by
   simp only[Qh,Qg,isRef,dj,fk,ee]
  rw[hmm];have a1z:(jf Pm.n ps).length=ps.length:=ym _ _;have a27:(jf (fun z:WN=>z.n.n) zs).length=zs.length:=ym _ _;have hpl:=hp hpb
  have hp3:pid≠b+3:=by omega
  have hp1:pid≠b+1:=by omega
  have hp2:pid≠b+2:=by omega
  have hv1:(m.put pid (m.av pid) (.arr 2 ((jf Pm.n ps).map tx))).av=m.av:=by
   funext i
   simp only[Mem.put,ak]
   (repeat' split)<;>first|rfl|(subst_vars;rfl)
  have hb1:∀i,b≤i→(m.put pid (m.av pid) (.arr 2 ((jf Pm.n ps).map tx))).da i=none:=fun i hi=>by
   simp only[Mem.put,ak]
   (repeat' rw[al (by omega)])
   exact(mh i hi).1
  have hw1:∀i x,(m.put pid (m.av pid) (.arr 2 ((jf Pm.n ps).map tx))).da i=some x→m.da i=some x∨M4 (m.put pid (m.av pid) (.arr 2 ((jf Pm.n ps).map tx))) x:=fun i x hx=>by
   simp only[Mem.put,ak]at hx
   (repeat' split at hx)<;>first|exact .inl hx|(injection hx with hx;subst hx;exact .inr trivial)
  refine mq A.mo A.Ge (by simp) b (fun c=>?_) (fun i=>by rw[hv1];exact ay _) hw1 (fun i es hi=> .inl hi) (Zl fun c hc=>?_);rotate_left
  ·simp only[dq,kh,or_false]at hc;rcases hc with rfl|rfl
   ·show m.av pid≤(m.put pid (m.av pid) (.arr 2 ((jf Pm.n ps).map tx))).av pid;rw[hv1];exact ay _
   trivial
  show ko P (sl A.ma A.om A.iz A.oi A.j1) (Bq m [.cell 2 2 true] _ _) _;simp only[sl,enter,go_sem,aa,ae,ah,ag];refine kg (qz.toR (az0 A hlp ?_ ?_ ?_ ?_ hp3 (b+100))) ?_
  ·simp only[PS.mem,ak]
   (repeat' rw[al (by omega)])
   exact hpb
  ·simp only[PS.mem,ak]
   (repeat' rw[al (by omega)])
  ·simp only[PS.mem,ak,dj]
  ·simp only[PS.mem,ak,dj]
  rintro m' r ⟨rfl,rfl⟩;simp only[go_sem,aa,ae,PS.j0,PS.mem,Mem.put,hp1.symm];refine kg (qz.toR (adx A _ _ _ ?_ (b+100))) ?_
  ·simp only[PS.mem,ak]
   (try rw[al (by omega)])
   simp only[dj];exact ay _
  rintro m' r ⟨rfl,rfl⟩;simp only[go_sem,aa,ae,PS.j0,PS.mem,gq,ag,sv,Ac,hpb,hp3,hp1,hp2,hp1.symm,hp2.symm,a1z];refine Va _ _ hv1 rfl hb1 (fun i hi=>?_) ?_ (fun i hi=>?_)
  ·simp only[ak]
   (repeat' split)<;>first|rfl|omega|(subst_vars;first|rfl|omega)
  ·rfl
  simp only[ak]
  (repeat' split)<;>first|rfl|omega|(subst_vars;first|rfl|omega)
 have hmm:Qh (Qg m pid ps (.ref pid (m.av pid) (ps.map tx).length)) tg zs (.ref tg (m.av tg) (zs.map Fh).length)=((m.put pid (m.av pid) (.arr 2 ((jf Pm.n ps).map tx))).put tg (m.av tg) (.arr 5 ((jf (fun z=>z.n.n) zs).map Fh))):=by
  simp only[Qh,Qg,isRef,dj];simp only[Mem.put,gu _ _ _ _ hne.symm]
 rw[hmm];have a1z:(jf Pm.n ps).length=ps.length:=ym _ _;have a27:(jf (fun z:WN=>z.n.n) zs).length=zs.length:=ym _ _;have hpl:=hp hpb
 have hp3:pid≠b+3:=by omega
 have hp1:pid≠b+1:=by omega
 have hp2:pid≠b+2:=by omega
 have hnl:=hn hnb
 have hn3:tg≠b+3:=by omega
 have hn1:tg≠b+1:=by omega
 have hn2:tg≠b+2:=by omega
 have hv1:((m.put pid (m.av pid) (.arr 2 ((jf Pm.n ps).map tx))).put tg (m.av tg) (.arr 5 ((jf (fun z=>z.n.n) zs).map Fh))).av=m.av:=by
  funext i
  simp only[Mem.put,ak]
  (repeat' split)<;>first|rfl|(subst_vars;rfl)
 have hb1:∀i,b≤i→((m.put pid (m.av pid) (.arr 2 ((jf Pm.n ps).map tx))).put tg (m.av tg) (.arr 5 ((jf (fun z=>z.n.n) zs).map Fh))).da i=none:=fun i hi=>by
  simp only[Mem.put,ak]
  (repeat' rw[al (by omega)])
  exact(mh i hi).1
 have hw1:∀i x,((m.put pid (m.av pid) (.arr 2 ((jf Pm.n ps).map tx))).put tg (m.av tg) (.arr 5 ((jf (fun z=>z.n.n) zs).map Fh))).da i=some x→m.da i=some x∨M4 ((m.put pid (m.av pid) (.arr 2 ((jf Pm.n ps).map tx))).put tg (m.av tg) (.arr 5 ((jf (fun z=>z.n.n) zs).map Fh))) x:=fun i x hx=>by
  simp only[Mem.put,ak]at hx
  (repeat' split at hx)<;>first|exact .inl hx|(injection hx with hx;subst hx;exact .inr trivial)
 refine mq A.mo A.Ge (by simp) b (fun c=>?_) (fun i=>by rw[hv1];exact ay _) hw1 (fun i es hi=> .inl hi) (Zl fun c hc=>?_);rotate_left
 ·simp only[dq,kh,or_false]at hc;rcases hc with rfl|rfl
  ·show m.av pid≤((m.put pid (m.av pid) (.arr 2 ((jf Pm.n ps).map tx))).put tg (m.av tg) (.arr 5 ((jf (fun z=>z.n.n) zs).map Fh))).av pid;rw[hv1];exact ay _
  show m.av tg≤((m.put pid (m.av pid) (.arr 2 ((jf Pm.n ps).map tx))).put tg (m.av tg) (.arr 5 ((jf (fun z=>z.n.n) zs).map Fh))).av tg;rw[hv1];exact ay _
 show ko P (sl A.ma A.om A.iz A.oi A.j1) (Bq m [.cell 2 2 true] _ _) _;simp only[sl,enter,go_sem,aa,ae,ah,ag];refine kg (qz.toR (az0 A hlp ?_ ?_ ?_ ?_ hp3 (b+100))) ?_
 ·simp only[PS.mem,ak]
  (repeat' rw[al (by omega)])
  exact hpb
 ·simp only[PS.mem,ak]
  (repeat' rw[al (by omega)])
 ·simp only[PS.mem,ak,dj]
 ·simp only[PS.mem,ak,dj]
 rintro m' r ⟨rfl,rfl⟩;simp only[go_sem,aa,ae,PS.j0,PS.mem,Mem.put,hp1.symm];refine kg (qz.toR (az1 A hln ?_ ?_ ?_ ?_ hn3 (b+100))) ?_
 ·simp only[PS.mem,ak]
  (repeat' rw[al (by omega)])
  exact hnb
 ·simp only[PS.mem,ak]
  (repeat' rw[al (by omega)])
 ·simp only[PS.mem,ak]
  (try rw[al (by omega)])
  simp only[dj]
 ·simp only[PS.mem,ak]
  (try rw[al (by omega)])
  simp only[dj]
 rintro m' r ⟨rfl,rfl⟩;simp only[go_sem,aa,ae,PS.j0,PS.mem,Mem.put,gq,ag,sv,Ac,hpb,hp3,hp1,hp2,hp1.symm,hp2.symm,a1z,hnb,hn3,hn1,hn2,hn1.symm,hn2.symm,a27,hne,hne.symm];refine Va _ _ hv1 rfl hb1 (fun i hi=>?_) ?_ (fun i hi=>?_)
 ·simp only[ak]
  (repeat' split)<;>first|rfl|omega|(subst_vars;first|rfl|omega)
 ·rfl
 simp only[ak]
 (repeat' split)<;>first|rfl|omega|(subst_vars;first|rfl|omega)
end
def so(t:Tr)(e:Edt):Tr×Int:=
 if e.k=0 then(if Di t e.n<0 then(t,4)else(⟨a1r t.ps (Di t e.n).toNat e.v,t.ns⟩,0))
 else if e.k=1 then(if Di t e.n<0 then(⟨t.ps++[⟨e.n,e.v⟩],t.ns⟩,0)else(t,7))
 else if e.k=2 then(if Di t e.n<0 then(t,4)else(⟨t.ps.eraseIdx (Di t e.n).toNat,t.ns⟩,0))
 else if e.k=3 then(if Ji t e.nd.n<0 then(⟨t.ps,t.ns++[e.nd]⟩,0)else(⟨t.ps,t.ns.set (Ji t e.nd.n).toNat e.nd⟩,0))
 else if e.k=4 then(if Ji t e.n<0 then(t,4)else(⟨t.ps,t.ns.eraseIdx (Ji t e.n).toNat⟩,0))
 else if e.k=5 then(if Ji t e.n<0 then(t,4)else if Ji t e.t<0 then(awc t e (Ji t e.n).toNat,0)else(t,7))
 else(if Di t e.n<0 then(t,4)else if Di t e.t<0 then(ar4 t e (Di t e.n).toNat,0)else(t,7))
def Gj(t:Tr):Tr:=⟨jf Pm.n t.ps,jf Nd.n t.ns⟩
def applyN(pr:List (List Sp)→Bool)(t:Tr)(e:Edt):Tr×Int:=
 if e.k<0∨7≤e.k then(⟨[],[]⟩,1)
 else if(so t e).2≠0 then(⟨[],[]⟩,(so t e).2)
 else if yf pr (Gj (so t e).1)=true then(Gj (so t e).1,0)else(⟨[],[]⟩,230)
theorem ao8{α β:Type}(key:β→ByteArray)(f:α→β)(l:List α):(jf (fun x=>key (f x)) l).map f=jf key (l.map f):=by
 have ins:∀(r:List α) (x:α),(uk (fun x=>key (f x)) r x).map f=uk key (r.map f) (f x):=by
  intro r x
  induction r with
  |nil=>rfl
  |cons y r ih=>
   simp only[uk,gf];split
   ·rw[gf,ih]
   rfl
 have:∀r:List α,(jf (fun x=>key (f x)) r.reverse).map f=jf key (r.reverse.map f):=by
  intro r
  induction r with
  |nil=>rfl
  |cons x r ih=>rw[uy,Ef,fu,gf,ni,Ef,List.map_reverse,ins,List.map_reverse,ih]
 have h:=this l.reverse
 rwa[ug]at h
theorem Wk.Aa{xs ys:List D}(hl:xs.length=ys.length)(h:∀(i:Nat) (x y:D),xs[i]? =some x→ys[i]? =some y→Wk x y):Wk (.Aa xs) (.Aa ys):=by
 intro G v hv
 cases hv with
 | @Aa _ vs k1 k2=>
  refine .Aa (by omega) fun i y u hy hu=>?_
  have hi:i<xs.length:=by have:=(aw.1 hy).1;omega
  exact h i xs[i] y (ax hi) hy G u (k2 i _ u (ax hi) hu)
theorem N6{x x' y:D}(h:Wk x x'):Wk (.Aa [x,y]) (.Aa [x',y]):=by
 refine Wk.Aa rfl fun i a b ha hb=>?_
 match i with
 |0=>simp at ha hb;subst ha hb;exact h
 |1=>simp at ha hb;subst ha hb;exact Wk.refl _
 |i+2=>simp at ha
def Wl{P:Program}(A:Pr4 P):List D:=[.nu A.ql [],.nu A.zp [],.nu A.zo [],.nu A.zn [],.nu A.qk [],.nu A.vt [],.nu A.ud []]
def a9r{P:Program}(A:Pr4 P)(k:Int):Nat:=
 if k=0 then A.ql else if k=1 then A.zp else if k=2 then A.zo else if k=3 then A.zn else if k=4 then A.qk else if k=5 then A.vt else A.ud
section
variable{P:Program}(A:Pr4 P)
theorem adu:iq P A.zz [] (.agg (Wl A)):=by
 refine du A.mo A.a2j (by simp) ?_;show ko P (Mn A.ql A.zp A.zo A.zn A.qk A.vt A.ud) (lg _ _) _;simp only[Mn,Wl,go_sem,ae,ah,reduceCtorEq]
theorem axd{k:Nat}(hk:k<7):(Wl A)[k]? =some (.nu (a9r A k) []):=by
 match k,hk with
 |0,_=>rfl
 |1,_=>rfl
 |2,_=>rfl
 |3,_=>rfl
 |4,_=>rfl
 |5,_=>rfl
 |6,_=>rfl
end
section
variable{P:Program}{K:PS→Prop}{s:PS}{r:List RI}{af:List Nat}
theorem anl{old cs:List C}(h:cs.length=old.length):patch old 0 cs=cs:=by
 unfold patch;rw[alz,N1,fj,h,am2,y0]
theorem aen{t x n id av:Nat}{cs old:List C}(hx:(s.tmp x).cells s=some cs)(ha:s.tmp t= .ic id av 0)(hc:s.cs id av=some old)(hl:old.length=n)(hcl:cs.length=n)(h1:cs.all (C.one s)=true)
  (h:l5 P r {s with da:=lb s.da id (some (.loc cs))} K):l5 P (⟨none,.store n (.t t) (.t x),none,af⟩::r) s K:=by
 rw[al1];simp only[jv.og,afx,hx,ha,ye,hc];rw[bm ⟨h1,hcl,by omega⟩,Et,anl (by omega)];exact h
end
theorem Ra.awo{s:PS}{m:Mem}{b:Nat}{t:Tr}{cs:List C}(h:Ra m b t cs)(hm:s.mem=m):cs.all (C.one s)=true:=by
 subst hm;obtain⟨cP,cN,cells,rfl,oP,hC,hN⟩:=h
 have h2:C.one s cN=true:=by
  rcases hN with ⟨_,rfl⟩|⟨_,rfl,hb⟩
  ·rfl
  have va:s.da (b+51)=some (.qq 5 cells):=hb;simp[C.one,V.live,PS.Iw,PS.mem,va,B.Cz,hC.1]
 simp only[Vi,aJ5,oP.one,h2,Gy]
theorem Ra.len{m:Mem}{b:Nat}{t:Tr}{cs:List C}(h:Ra m b t cs):cs.length=2:=by
 obtain⟨_,_,_,rfl,_⟩:=h;rfl
theorem afp{s:PS}{ids:List Nat}{j:Nat}(h:s.da j=none):Ii s ids j=none:=by
 unfold Ii;rw[h]
theorem aj4{s:PS}{ids:List Nat}{j sz:Nat}{dd:List (List D)}(h:s.da j=some (.arr sz dd)):Ii s ids j=some (.arr sz dd):=by
 unfold Ii;rw[h]
theorem afq{s:PS}{ids:List Nat}{j:Nat}{ds:List D}(h:s.da j=some (.loc (ds.map .d))):Ii s ids j=some (.loc (ds.map .d)):=by
 unfold Ii;rw[h];simp only[aF4];rfl
theorem afn{s:PS}{ids:List Nat}{c:C}(h:∀i v l,c= .ref i v l→i∉ids)(h2:∀i v,c≠ .kj i v):C.uu s ids c=c:=by
 cases c with
 |d x=>rfl
 |ref i v l=>simp only[C.uu,al (h i v l rfl)]
 |kj i v=>exact absurd rfl (h2 i v)
 |ptr i v o=>rfl
theorem aul(l:List (List D)):a1g (l.map (·.map .d))=some l:=by
 induction l with
 |nil=>rfl
 |cons e r ih=>simp only[gf,a1g,Yz,ih]
theorem Tx{s:PS}{ids:List Nat}:(s.uu ids).av=s.av:=by
 by_cases h:ids=[]
 ·rw[h];rfl
 exact a3b h
theorem R0{s:PS}{ids:List Nat}{t i v o:Nat}(h:s.tmp t= .ic i v o):(s.uu ids).tmp t= .ic i v o:=by
 by_cases h':ids=[]
 ·rw[h'];exact h
 rw[Jt h',h];rfl
theorem afs{s:PS}{B0 u b:Nat}{t:Tr}{cs:List C}(hT:Ra s.mem B0 t cs)(hu:s.da u=some (.loc cs))(huB:u<B0)(hB:B0+96+64*t.ns.length+64≤b)(mh:w8 s.mem b):
  ∃zs:List WN,zs.map WN.n=t.ns∧Sb (s.uu (Er (B0+32) t.ns.length)).mem u (u+1) t.ps zs∧(∀j,j<B0→∀ds:List D,s.da j=some (.loc (ds.map .d))→(s.uu (Er (B0+32) t.ns.length)).da j=some (.loc (ds.map .d)))∧
   w8 (s.uu (Er (B0+32) t.ns.length)).mem b:=by
 obtain⟨cP,cN,cells,rfl,oP,hC,hN⟩:=hT;obtain⟨zs,z1,_,z3⟩:=hC.data
 generalize V9:Er (B0+32) t.ns.length=ids at*
 have hin:∀i,i∈ids→B0+96≤i∧i<b:=fun i hi=>by
  rw[←V9]at hi;obtain⟨k,hk,h|h⟩:=Up.1 hi<;>omega
 have hP:C.uu s ids cP=cP:=afn (fun i v l h hi=>by
  have:=hin i hi;rcases oP with ⟨_,rfl⟩|⟨rfl,_⟩
  ·cases h
  ·injection h with h;omega) (fun i v h=>by
  rcases oP with ⟨_,rfl⟩|⟨rfl,_⟩<;>cases h)
 have hNf:C.uu s ids cN=cN:=afn (fun i v l h hi=>by
  have:=hin i hi;rcases hN with ⟨_,rfl⟩|⟨_,rfl,_⟩
  ·cases h
  ·injection h with h;omega) (fun i v h=>by
  rcases hN with ⟨_,rfl⟩|⟨_,rfl,_⟩<;>cases h)
 have bu:(s.uu ids).da u=some (.loc [cP,cN]):=by
  by_cases h:ids=[]
  ·rw[h];exact hu
  rw[Le h (fun hi=>by have:=hin u hi;omega)]
  unfold Ii;rw[hu];simp only[gf,ni,hP,hNf]
 refine⟨zs,z1,⟨B0+15,B0+51,cP,cN,by omega,by omega,by omega,bu,?_,?_⟩,fun j hj ds hd=>?_,fun i hi=>?_⟩
 ·rcases oP with ⟨e1,rfl⟩|⟨rfl,hb⟩
  ·exact .inl ⟨e1,rfl⟩
  have va:s.da (B0+15)=some (.arr 2 (t.ps.map tx)):=hb;refine .inr ⟨?_,?_⟩
  ·show C.ref (B0+15) (s.av (B0+15)) _=C.ref (B0+15) ((s.uu ids).av (B0+15)) _;rw[Tx]
  show(s.uu ids).da _=_;by_cases h:ids=[]
  ·rw[h];exact va
  rw[Le h (fun hi=>by have:=hin _ hi;omega)]
  exact aj4 va
 ·rcases hN with ⟨h0',rfl⟩|⟨h0',rfl,hb⟩
  ·refine .inl ⟨?_,rfl⟩;rw[h0']at z1;rw[jc.1 z1];rfl
  have va:s.da (B0+51)=some (.qq 5 cells):=hb
  have hne:ids≠[]:=by
   rw[←V9];intro h;obtain⟨n,hn⟩:∃n,t.ns.length=n+1:=⟨t.ns.length-1,by have:=a1i.2 h0';omega⟩;have:B0+32+64+64*0+45∈Er (B0+32) t.ns.length:=Up.2 ⟨0,by omega,.inl rfl⟩;rw[h]at this;cases this
  refine .inr ⟨?_,?_⟩
  ·show C.ref (B0+51) (s.av (B0+51)) _=C.ref (B0+51) ((s.uu ids).av (B0+51)) _;rw[Tx,ag,←z1,ag]
  show(s.uu ids).da _=_
  rw[Le hne (fun hi=>by have:=hin _ hi;omega)]
  unfold Ii;rw[va];simp only[z3,Y2,aul]
 ·by_cases h:ids=[]
  ·rw[h];exact hd
  rw[Le h (fun hi=>by have:=hin _ hi;omega)]
  exact afq hd
 refine⟨?_,?_⟩
 ·show(s.uu ids).da i=none;by_cases h:ids=[]
  ·rw[h];exact(mh i hi).1
  rw[Le h (fun h2=>by have:=hin _ h2;omega)]
  exact afp (mh i hi).1
 show(s.uu ids).mp i=none;by_cases h:ids=[]
 ·rw[h];exact(mh i hi).2
 rw[ac7 h (fun h2=>by have:=hin _ h2;omega)]
 unfold a9y;rw[show s.mp i=none from(mh i hi).2];rfl
def ajc(rs:List Il)(r:D):Exit→PS→Prop:=fun e s=>(e= .normal∨e= .ret)∧∃x,Xt s rs=some x∧Wk x r
theorem atd{rs:List Il}{r:D}{s:PS}:ajc rs r .ret s=∃x,Xt s rs=some x∧Wk x r:=by simp[ajc]
theorem ag1{rs:List Il}{r:D}{s:PS}:ajc rs r .normal s=∃x,Xt s rs=some x∧Wk x r:=by simp[ajc]
attribute [go_sem] atd ag1
def apf(ra:Nat):di:=
 .region
   [⟨some 31,.load 2 true (.t 6),none,[]⟩,
   ⟨some 32,.qb ra [(.t 31)],none,[]⟩,
   ⟨none,.store 2 (.t 6) (.t 32),none,[]⟩] false []
def ape(jl:Nat):di:=
 (.seq
   (
   (.seq (
   .region [⟨some 33,.load 2 true (.t 6),none,[]⟩,
    ⟨some 34,.call jl [(.t 33)],none,[]⟩,
    ⟨some 35,.bin .neq (.t 34) (.c (.int ab 0)),none,[]⟩] false []) (
   (.cond (.t 35) (
    (.seq (
    .region [⟨some 36,.build [.cq,.cq] [],none,[]⟩,
     ⟨none,.store 2 (.t 4) (.t 36),none,[]⟩,
     ⟨some 5,.j7 (.c (.int ab 230)),none,[]⟩] false []) (
    .ret))) (
    .skip))))) (
   (.seq (
   .region [⟨some 37,.load 2 true (.t 6),none,[]⟩,
    ⟨none,.store 2 (.t 4) (.t 37),none,[]⟩,
    ⟨some 5,.j7 (.c (.int ab 0)),none,[]⟩] false []) (
   .ret))))
section
variable{P:Program}(A:Pr4 P)
theorem ayq{pr:List (List Sp)→Bool}(hpr:K1 A.toPr pr){u:Tr}{zs:List WN}{s4:PS}{b:Nat}(g0:s4.base=0)(g4:s4.tmp 4= .ic 4 (s4.av 4) 0)(b4:s4.da 4=some (.loc [.d .cq,.d .cq]))(g6:s4.tmp 6= .ic 6 (s4.av 6) 0)(hTA:Sb s4.mem 6 7 u.ps zs)(hz:zs.map WN.n=u.ns)
  (mh:w8 s4.mem b)(hlp:u.ps.length≤21)(hln:zs.length≤21)(B6:M3 (Gj u)):
  ko P (apf A.ra) (Vm P (ape A.jl) (ajc [.cell 4 2 true,.tmp 5] (.Aa [.agg (r8 (if yf pr (Gj u)=true then Gj u else⟨[],[]⟩)),.int ab (if yf pr (Gj u)=true then 0 else 230)]))) s4:=by
 obtain⟨pid,tg,cP,cN,hp,hn,hne,b6,oP,oN⟩:=hTA;replace b6:s4.da 6=some (.loc [cP,cN]):=b6
 have hns:(jf (fun z=>z.n.n) zs).map WN.n=jf Nd.n u.ns:=by rw[ao8 Nd.n WN.n,hz]
 have hyW:Wk (.ft 5 ((jf (fun z=>z.n.n) zs).map Fh)) (l7 (jf Nd.n u.ns)):=by rw[←hns];exact Xb _
 have axs:∀x y,Wk x (jn (jf Pm.n u.ps))→Wk y (l7 (jf Nd.n u.ns))→iq P A.jl [.agg [x,y]] (.int ab (if yf pr (Gj u)then 0 else 230)):=fun x y hx hy=>
  (Tb A.toPr2 hpr (Gj u) B6).args rfl fun i a c ha hc=>by
   match i with
   |0=>simp at ha hc;subst ha hc;exact M6 hx hy
   |i+1=>simp at ha
 have a1z:(jf Pm.n u.ps).length=u.ps.length:=ym _ _;have a27:(jf (fun z:WN=>z.n.n) zs).length=zs.length:=ym _ _;rcases oP with ⟨e1,rfl⟩|⟨rfl,asi⟩<;>rcases oN with ⟨e2,rfl⟩|⟨rfl,axo⟩
 ·have hxN:Wk .cq (jn (jf Pm.n u.ps)):=by rw[jc.1 e1];exact Wk.cq
  have hyN:Wk .cq (l7 (jf Nd.n u.ns)):=by
   rw[←hz,jc.1 e2];exact Wk.cq
  simp only[apf,go_sem,ae,g0,g6,b6];refine kg (qz.toR (Ui A (pid:=pid) (tg:=tg) (ps:=u.ps) (zs:=zs) (b:=b) (cP:= .d .cq) (cN:= .d .cq) hlp hln (.inl ⟨e1,rfl⟩) (.inl ⟨e2,rfl⟩) hne mh)) ?_;rintro m' r ⟨rfl,rfl⟩;simp only[ape,Qh,Qg,isRef,go_sem,aa,ae,PS.j0,PS.mem,Mem.put,g6,b6];refine qw (ds:=[.agg [.cq,.cq]]) ?_ (axs _ _ hxN hyN) rfl ?_
  ·simp only[go_sem]
  cases hT:yf pr (Gj u)
  ·simp only[go_sem,aa,jk,ae,reduceCtorEq,g4,b4];exact⟨_,rfl,N6 (M6 Wk.cq Wk.cq)⟩
  simp only[go_sem,aa,jk,ae,reduceCtorEq,g4,b4,g6,b6];exact⟨_,rfl,N6 (M6 hxN hyN)⟩
 ·have hxN:Wk .cq (jn (jf Pm.n u.ps)):=by rw[jc.1 e1];exact Wk.cq
  have hn6:tg≠6:=by omega
  have hn4:tg≠4:=by omega
  have hnb:s4.da tg=some (.arr 5 (zs.map Fh)):=axo;have hnv:s4.mem.av tg=s4.av tg:=rfl;simp only[apf,go_sem,ae,g0,g6,b6,ag];refine kg (qz.toR (Ui A (pid:=pid) (tg:=tg) (ps:=u.ps) (zs:=zs) (b:=b) (cP:= .d .cq) (cN:= .ref tg (s4.mem.av tg) zs.length) hlp hln (.inl ⟨e1,rfl⟩) (.inr ⟨by rw[ag];rfl,axo⟩) hne mh)) ?_;rintro m' r ⟨rfl,rfl⟩;simp only[ape,Qh,Qg,isRef,go_sem,aa,ae,PS.j0,PS.mem,Mem.put,gq,ag,g6,b6,hnb,hn6.symm,a27];refine qw (ds:=[.agg [.cq,.ft 5 ((jf (fun z=>z.n.n) zs).map Fh)]]) ?_ (axs _ _ hxN hyW) rfl ?_
  ·simp only[go_sem,ag,nj,rb,hnb,hn6,a27]
  cases hT:yf pr (Gj u)
  ·simp only[go_sem,aa,jk,ae,reduceCtorEq,g4,b4,hn4.symm];exact⟨_,rfl,N6 (M6 Wk.cq Wk.cq)⟩
  simp only[go_sem,aa,jk,ae,reduceCtorEq,PS.mem,gq,ag,g4,b4,g6,b6,Ot,Pv,hnb,hn6,hn4,hn6.symm,hn4.symm,a27];exact⟨_,rfl,N6 (M6 hxN hyW)⟩
 ·have hp6:pid≠6:=by omega
  have hp4:pid≠4:=by omega
  have hyN:Wk .cq (l7 (jf Nd.n u.ns)):=by
   rw[←hz,jc.1 e2];exact Wk.cq
  have hpb:s4.da pid=some (.arr 2 (u.ps.map tx)):=asi;have hpv:s4.mem.av pid=s4.av pid:=rfl;simp only[apf,go_sem,ae,g0,g6,b6,ag];refine kg (qz.toR (Ui A (pid:=pid) (tg:=tg) (ps:=u.ps) (zs:=zs) (b:=b) (cP:= .ref pid (s4.mem.av pid) u.ps.length) (cN:= .d .cq) hlp hln (.inr ⟨by rw[ag];rfl,asi⟩) (.inl ⟨e2,rfl⟩) hne mh)) ?_;rintro m' r ⟨rfl,rfl⟩;simp only[ape,Qh,Qg,isRef,go_sem,aa,ae,PS.j0,PS.mem,Mem.put,gq,ag,g6,b6,hpb,hp6.symm,a1z];refine qw (ds:=[.agg [.ft 2 ((jf Pm.n u.ps).map tx),.cq]]) ?_ (axs _ _ (Wk.refl _) hyN) rfl ?_
  ·simp only[go_sem,ag,nj,rb,hpb,hp6,a1z]
  cases hT:yf pr (Gj u)
  ·simp only[go_sem,aa,jk,ae,reduceCtorEq,g4,b4,hp4.symm];exact⟨_,rfl,N6 (M6 Wk.cq Wk.cq)⟩
  simp only[go_sem,aa,jk,ae,reduceCtorEq,PS.mem,gq,ag,g4,b4,g6,b6,Ot,Pv,hpb,hp6,hp4,hp6.symm,hp4.symm,a1z];exact⟨_,rfl,N6 (M6 (Wk.refl _) hyN)⟩
 have hp6:pid≠6:=by omega
 have hp4:pid≠4:=by omega
 have hn6:tg≠6:=by omega
 have hn4:tg≠4:=by omega
 have hpb:s4.da pid=some (.arr 2 (u.ps.map tx)):=asi;have hpv:s4.mem.av pid=s4.av pid:=rfl;have hnb:s4.da tg=some (.arr 5 (zs.map Fh)):=axo;have hnv:s4.mem.av tg=s4.av tg:=rfl;simp only[apf,go_sem,ae,g0,g6,b6,ag];refine kg (qz.toR (Ui A (pid:=pid) (tg:=tg) (ps:=u.ps) (zs:=zs) (b:=b) (cP:= .ref pid (s4.mem.av pid) u.ps.length) (cN:= .ref tg (s4.mem.av tg) zs.length) hlp hln (.inr ⟨by rw[ag];rfl,asi⟩) (.inr ⟨by rw[ag];rfl,axo⟩) hne mh)) ?_;rintro m' r ⟨rfl,rfl⟩;simp only[ape,Qh,Qg,isRef,go_sem,aa,ae,PS.j0,PS.mem,Mem.put,gq,ag,g6,b6,hpb,hp6.symm,a1z,hnb,hn6.symm,a27,hne,hne.symm];refine qw (ds:=[.agg [.ft 2 ((jf Pm.n u.ps).map tx),.ft 5 ((jf (fun z=>z.n.n) zs).map Fh)]]) ?_ (axs _ _ (Wk.refl _) hyW) rfl ?_
 ·simp only[go_sem,ag,nj,rb,hpb,hp6,a1z,hnb,hn6,a27,hne,hne.symm]
 cases hT:yf pr (Gj u)
 ·simp only[go_sem,aa,jk,ae,reduceCtorEq,g4,b4,hp4.symm,hn4.symm];exact⟨_,rfl,N6 (M6 Wk.cq Wk.cq)⟩
 simp only[go_sem,aa,jk,ae,reduceCtorEq,PS.mem,gq,ag,g4,b4,g6,b6,Ot,Pv,hpb,hp6,hp4,hp6.symm,hp4.symm,a1z,hnb,hn6,hn4,hn6.symm,hn4.symm,a27,hne,hne.symm];exact⟨_,rfl,N6 (M6 (Wk.refl _) hyW)⟩
end
end Go.PI
