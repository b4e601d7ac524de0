/- A part of the proof for HistoryBack: F5 to F31. Printed from longer texts. -/
import Derived.Test.YtcpkpdmejlfemaaGreatDoorC
set_option linter.all false
set_option maxHeartbeats 64000000
open Bool renaming and_eq_true→cd,and_false→o9,and_self→aFb,and_true→F9,eq_iff_iff→Q4,false_and→cz,false_eq_true→ec,false_or→Mz,not_eq_true'→wg,not_false→Ji,not_true→aAt,or_eq_false_iff→P6,or_false→Sq,or_true→aF0,true_and→qu,true_or→Jh
open Go.IntKind renaming i64→kc,wrap→Mx
open Go.Op renaming bytesLess→ahr
open Int renaming add_zero→ahz,cast_ofNat_Int→axt,natCast_add→jz,natCast_nonneg→aj,natCast_zero→Yo,reduceBEq→Sn,reduceBNe→je,reduceLE→df,reduceLT→bx,reduceNeg→bc,reduceSub→aF8,reduceToNat→da,tmod_eq_emod_of_nonneg→axs
open List renaming all_cons→Sl,all_eq_false→Zj,all_eq_true→ck,any_cons→aG0,any_eq_false→aq2,any_eq_not_all_not→acz,any_eq_true→Dh,append_assoc→we,append_nil→th,cons_append→vp,drop→aGs,drop_drop→ahw,drop_eq_getElem_cons→gd,drop_length→Ma,eq_nil_of_length_eq_zero→jb,filter_append→axq,filter_cons→a69,filter_eq_self→acw,find?_eq_none→Ub,find?_eq_some_iff_append→W1,flatMap_append→aF6,foldl_append→pw,foldl_cons→ya,foldl_nil→aE0,getD→bn,getD_cons_zero→av1,getD_eq_getElem?_getD→yb,getElem?_append_left→jr,getElem?_append_right→jy,getElem?_cons_succ→jx,getElem?_cons_zero→ff,getElem?_drop→lv,getElem?_eq_getElem→ao,getElem?_eq_some_iff→aq,getElem?_map→bp,getElem?_range→Jx,getElem_mem→bz,getElem_of_mem→Ro,getElem_take→aAy,length→Cq,length_append→cb,length_cons→bq,length_filter_le→Im,length_map→ae,length_nil→dh,length_range→aAx,length_reverse→Mw,length_take→dd,map→aGz,map_append→fb,map_cons→cu,map_eq_nil_iff→dg,map_nil→ez,map_set→aG9,map_take→J7,mem_append→oo,mem_cons→dn,mem_flatMap→M9,mem_iff_getElem→fj,mem_map→jc,mem_of_find?_eq_some→Rn,mem_of_getElem?→lx,mem_of_mem_take→aq6,mem_range→du,not_mem_nil→jg,range→cq,reduceReplicate→ca,replicate→gu,reverse_cons→qm,reverse_reverse→Cp,sum_append→aEr,sum_cons→aFz,take→aGu,take_add_one→ey,take_append_drop→Mf,take_length→eo,take_of_length_le→Ab,take_succ_cons→aF2,take_zero→F8
open Nat renaming add_assoc→p8,add_zero→xu,le_of_lt→aFy,le_refl→ar,le_trans→gn,mod_lt→a30,mul_le_mul→aFd,reduceAdd→ab,reduceEqDiff→aa,reduceLeDiff→ag,reduceMul→de,reducePow→Mt,sub_self→Ms,sub_zero→S8,zero_add→eh
open Option renaming getD_some→j3,isSome→ax,map→aGm,map_eq_some_iff→ak,map_some→gz,toList_some→ahq
open Option.some renaming inj→aAo,injEq→ah
namespace Go.PI
theorem fp.w0{P:Program}{f sz:Nat}{as:List D}{r:D}(h:fp P f (.dt sz []::as) r):fp P f (.bd::as) r:=by
 refine⟨h.1,fun G w vs hG hl hr=>h.2 G w vs hG hl fun i x v hx hv=>?_⟩
 cases i with
 |zero=>
  simp only[ff,ah]at hx;subst hx;exact Iy G v (hr 0 .bd v rfl hv)
 |succ i=>exact hr (i+1) x v hx hv
theorem fp.w1{P:Program}{f sz:Nat}{a:D}{as:List D}{r:D}(h:fp P f (a:: .dt sz []::as) r):fp P f (a:: .bd::as) r:=by
 refine⟨h.1,fun G w vs hG hl hr=>h.2 G w vs hG hl fun i x v hx hv=>?_⟩
 match i with
 |0=>exact hr 0 x v hx hv
 |1=>
  simp only[jx,ff,ah]at hx;subst hx;exact Iy G v (hr 1 .bd v rfl hv)
 |i+2=>exact hr (i+2) x v hx hv
def ab1(k:Nat):ByteArray:=[(⟨#[98,111,120]⟩:ByteArray),⟨#[112,114,105,115,109]⟩,⟨#[115,108,97,110,116]⟩,⟨#[112,121,114,97,109,105,100]⟩,⟨#[117,110,105,111,110]⟩,⟨#[105,110,116,101,114,115,101,99,116]⟩,⟨#[115,117,98,116,114,97,99,116]⟩,⟨#[99,108,105,112]⟩,⟨#[115,104,105,102,116]⟩,⟨#[115,121,109,109,101,116,114,121]⟩,⟨#[115,99,97,108,101]⟩,⟨#[115,117,109]⟩,⟨#[99,111,114,101]⟩,⟨#[114,101,112,101,97,116]⟩].getD k ⟨#[]⟩
def G9(k:Nat):Int:=([6,2,4,4,0,0,0,4,3,1,2,6,6,4]:List Int).getD k 0
def kIn(k:Nat):Int:=([0,0,0,0,2,2,2,1,1,1,1,1,1,1]:List Int).getD k 0
def sv(s:ByteArray):List D:=[.str s]
def ma(l:List ByteArray):D:= .dt 1 (l.map sv)
def jh(a b:ByteArray):Bool:=a.toList==b.toList
def hasB(l:List ByteArray)(s:ByteArray):Bool:=l.any fun x=>jh x s
section
variable{P:Program}(A:Pr P)
theorem agk:fp P A.Bb [] (.dt 1 ((cq 14).map fun k=>[.str (ab1 k)])):=by
 refine cy A.mo A.a3p (by simp) ?_
 show jd P N7 (kf _ _) _;simp only[N7,go_sem,ab,ag,reduceCtorEq,ca];rfl
theorem ajj{k:Nat}(h:k<14):((cq 14).map fun k=>[D.str (ab1 k)])[k]? =some [.str (ab1 k)]:=by
 rw[bp,Jx h];rfl
theorem adp(k:Int):fp P A.ze [.int .i64 k] (.str (if 0≤k∧k<14 then ab1 k.toNat else⟨#[]⟩)):=by
 refine cy A.mo A.X3 (by simp) ?_
 show jd P (Ek A.Bb) (kf _ _) _;by_cases h1:k<0
 ·have h1':¬0≤k:=by omega
  simp only[Ek,go_sem,aa,reduceCtorEq,h1,h1',false_and]
 ·have h1':0≤k:=by omega
  simp only[Ek,go_sem,aa,reduceCtorEq,h1,h1'];refine Dg (agk A) ?_;by_cases h2:(14:Int)≤k
  ·have h2':¬k<14:=by omega
   simp only[Qi,a9d,a9e,a6y,Jj,a9l,a8f,Qk,Wp,an8,ae6,anc,aao,Vj,Fk,aby,azv,al,PS.sn,aa,jx,j6.ml,kn.app,PS.put,kn.qj,aGm,Lw,a8u,a4g,Y7,Wg,ady,Ut,axt,or_true,reduceCtorEq,decide_true,ge_iff_le,if_true,if_false,eq_self,ae,aAx,h2,h2']
  ·have h2':k<14:=by omega
   simp only[aa8,Qi,a9d,a9f,Jj,Qk,Wp,ae6,anc,aao,anh,Vj,Fk,aby,al,PS.sn,aa,jx,j6.ml,aGz,kn.app,PS.put,kn.qj,aGm,Lw,a8u,a4g,Y7,axt,or_true,reduceCtorEq,decide_false,ge_iff_le,if_true,if_false,eq_self,ae,aAx,h2,h2'];refine Dg (agk A) ?_
   simp only[a6y,Jj,a8f,Qk,an8,ane,anb,Vj,aby,al,aa,ff,jx,Cq,PS.put,A8,I3,aGs,aGu,mkd,Wg,ady,Ut,eh,and_self,ar,aF2,reduceCtorEq,if_true,if_false,eq_self,h1',ajj (show k.toNat<14 by omega)]
theorem aeh{k:Nat}(h:k<14):([[D.int kc 6],[D.int kc 2],[D.int kc 4],[D.int kc 4],[D.int kc 0],[D.int kc 0],[D.int kc 0],[D.int kc 4],[D.int kc 3],[D.int kc 1],[D.int kc 2],[D.int kc 6],[D.int kc 6],[D.int kc 4]]:List (List D))[k]? =some [.int .i64 (G9 k)]:=by
 match k,h with
 |0,_|1,_|2,_|3,_|4,_|5,_|6,_|7,_|8,_|9,_|10,_|11,_|12,_|13,_=>rfl
 |n+14,h=>omega
theorem amf{k:Nat}(h:k<14):fp P A.By [.int .i64 k] (.int .i64 (G9 k)):=by
 refine cy A.mo A.a1f (by simp) ?_
 show jd P Lj (kf _ _) _
 have h':(k:Int)<14:=by omega
 simp only[Lj,go_sem,aa,ab,ag,reduceCtorEq,ca,toNat_cast,aj,h',aeh h]
theorem asj{k:Nat}(h:k<14):([[D.int kc 0],[D.int kc 0],[D.int kc 0],[D.int kc 0],[D.int kc 2],[D.int kc 2],[D.int kc 2],[D.int kc 1],[D.int kc 1],[D.int kc 1],[D.int kc 1],[D.int kc 1],[D.int kc 1],[D.int kc 1]]:List (List D))[k]? =some [.int .i64 (kIn k)]:=by
 match k,h with
 |0,_|1,_|2,_|3,_|4,_|5,_|6,_|7,_|8,_|9,_|10,_|11,_|12,_|13,_=>rfl
 |n+14,h=>omega
theorem aa0{k:Nat}(h:k<14):fp P A.Bx [.int .i64 k] (.int .i64 (kIn k)):=by
 refine cy A.mo A.a1e (by simp) ?_
 show jd P Li (kf _ _) _
 have h':(k:Int)<14:=by omega
 simp only[Li,go_sem,aa,ab,ag,reduceCtorEq,ca,toNat_cast,aj,h',asj h]
end
def se(l:List Sp):D:= .dt 2 (l.map zm)
def jv(ls:List (List Sp)):D:= .dt 1 (ls.map fun l=>[se l])
def Bk(e:Sp×Sp):List D:=[.int .i64 e.1.1,.int .i64 e.1.2,.int .i64 e.2.1,.int .i64 e.2.2]
def Oy(l:List (Sp×Sp)):D:= .dt 4 (l.map Bk)
def yo(l:List Sp)(k:Nat):Sp×Sp:=(l.getD k (0,0),l.getD ((k+1)%l.length) (0,0))
def i7(l:List Sp):List (Sp×Sp):=(cq l.length).map (yo l)
def fl(ls:List (List Sp)):List (Sp×Sp):=ls.flatMap i7
theorem tu(l:List Sp):(i7 l).length=l.length:=by simp[i7]
theorem Lr{l:List Sp}{k:Nat}(h:k<l.length):(i7 l).take (k+1)=(i7 l).take k++[yo l k]:=by
 rw[ey,i7];simp[h]
theorem U0{ls:List (List Sp)}{i:Nat}(h:i<ls.length):fl (ls.take (i+1))=fl (ls.take i)++i7 ls[i]:=by
 unfold fl;rw[ey,aF6];simp[h]
theorem Jd{ls:List (List Sp)}{i k:Nat}(h:i<ls.length)(hk:k≤ls[i].length):(fl (ls.take i)++(i7 ls[i]).take k).length≤(fl ls).length:=by
 have e:fl ls=fl (ls.take (i+1))++fl (ls.drop (i+1)):=by
  unfold fl;rw[←aF6,Mf]
 rw[e,U0 h];simp only[cb,dd];omega
theorem W6{k n:Nat}:((k:Int)+1).tmod n=(((k+1)%n:Nat):Int):=by
 rw[axs (by omega)]
 exact(Int.natCast_emod (k+1) n).symm
theorem Bm{l:List Sp}{k:Nat}(h:k<l.length):(l.map zm)[k]? =some [.int .i64 (l.getD k (0,0)).1,.int .i64 (l.getD k (0,0)).2]:=by
 simp[h,zm,bn]
theorem Cf{ls:List (List Sp)}{i:Nat}(h:i<ls.length):(ls.map fun l=>[se l])[i]? =some [.dt 2 (ls[i].map zm)]:=by
 simp[h,se]
section
variable{P:Program}(A:Pr P)
theorem ar8(ls:List (List Sp))(h1:ls.length≤2^30)(h2:(fl ls).length≤2^30):fp P A.Bc [jv ls] (Oy (fl ls)):=by
 have main:fp P A.Bc [jv ls] (if(fl ls).map Bk=[]then .bd else .dt 4 ((fl ls).map Bk)):=by
  refine cy A.mo A.a3v (by simp) ?_
  show jd P Nc (kf _ _) _;simp only[Nc,jv,go_sem]
  refine dq ls.length (fun i s'=>s'.tmp 0= .d (.dt 1 (ls.map fun l=>[se l]))∧s'.tmp 4= .d (.int .i64 i)∧s'.base=0∧uc s' 45 4 ((fl (ls.take i)).map Bk) (s'.tmp 3)) ?_ ?_
  ·refine⟨by simp[al],by simp[al],rfl,?_⟩
   simp only[al,reduceIte,aa];exact uc.nil
  ·rintro i s' hi ⟨e0,e4,eb,acc⟩
   by_cases iy:(i:Int)<ls.length
   ·have cj:i<ls.length:=by omega
    have wi:=br ((i:Int)+1) (by omega) (by omega)
    have hgi:=Cf cj;simp only[go_sem,aa,reduceCtorEq,e0,e4,ae,iy]
    refine dq ls[i].length (fun k s'=>s'.tmp 0= .d (.dt 1 (ls.map fun l=>[se l]))∧s'.tmp 4= .d (.int .i64 i)∧s'.tmp 5= .d (.int .i64 k)∧s'.base=0∧uc s' 45 4 ((fl (ls.take i)++(i7 ls[i]).take k).map Bk) (s'.tmp 3)) ?_ ?_
    ·refine⟨by simp[al,e0],by simp[al,e4],by simp[al],eb,?_⟩
     simp only[al,reduceIte,aa,F8,th];exact acc.mono rfl rfl
    ·rintro k s' hk ⟨e0,e4,e5,eb,acc⟩
     by_cases Ch:(k:Int)<ls[i].length
     ·have mq:k<ls[i].length:=by omega
      have hle:=Jd cj (aFy mq)
      have hl1:ls[i].length≤2^30:=by
       have:=Jd cj (ar ls[i].length);simp only[cb,dd,tu]at this;omega
      have wk:=br ((k:Int)+1) (by omega) (by omega)
      have hm:(k+1)%ls[i].length<ls[i].length:=a30 _ (by omega)
      have hm':(((k+1)%ls[i].length:Nat):Int)<ls[i].length:=by omega
      have kg:¬((ls[i].length:Nat):Int)=0:=by omega
      simp only[go_sem,aa,ab,ag,reduceCtorEq,ca,e0,e4,e5,ae,Ch,toNat_cast,aj,hgi,Bm mq,Bm hm,wk,W6,kg]
      refine r8 (els:=(fl (ls.take i)++(i7 ls[i]).take k).map Bk) (ys:=[Bk (yo ls[i] k)]) (osz:=some 4) ?_ ?_ rfl (by simp[Bk,D.one]) ?_ (by simp) ?_
      ·simp only[go_sem,aa,eb]
       exact acc.mono (by simp[al]) (by simp[al])
      ·simp only[go_sem,aa,eb,ov]
       rfl
      ·simp only[ae,bq,dh]
       omega
      ·intro s2 g
       simp only[go_sem,aa,reduceCtorEq,g.tmp,e5,wk]
       refine⟨mq,by simp[e0],by simp[e4],by simp,by rw[g.base];exact eb,?_⟩
       have ha:=g.acc (by simp)
       rw[g.tmp,bh]at ha;rw[Lr mq,←we];simp only[eb,eh,fb,cu,ez]at ha⊢;exact ha.mono rfl rfl
     ·have hke:k=ls[i].length:=by omega
      simp only[go_sem,aa,reduceCtorEq,e0,e4,e5,ae,Ch,toNat_cast,aj,hgi,wi]
      refine⟨cj,by simp,eb,?_⟩
      rw[U0 cj]
      rw[hke,Ab (l:=i7 ls[i]) (by rw[tu];exact ar _)]at acc
      exact acc.mono rfl rfl
   ·simp only[go_sem,aa,reduceCtorEq,e0,e4,ae,iy]
    have:i=ls.length:=by omega
    subst this;rw[eo]at acc;rcases acc with ⟨a1,a2⟩|⟨a1,a2,a3⟩
    ·simp only[go_sem,a1,a2]
    ·have he:PS.els s' 45 (s'.ver 45)=some (4,(fl ls).map Bk):=by unfold PS.els;rw[if_pos rfl,a3]
     rw[if_neg a1,a2];simp only[a3,if_true]
 refine main.Qe fun G v hv=>?_
 split at hv
 ·rename_i he
  unfold Oy;rw[he];exact Iy G v hv
 ·exact hv
end
abbrev Ed:=Sp×Sp
def yq(e:Ed):Ed:=((-e.1.2,e.1.1),(-e.2.2,e.2.1))
def dbl(p:Sp):Sp:=(2*p.1,2*p.2)
def Gs(m:Sp)(f:Ed):Int:=
 if(2*f.1.1≤m.1∧m.1<2*f.2.1)∧gj (dbl f.1) (dbl f.2) m<0 then-1
 else if(2*f.2.1≤m.1∧m.1<2*f.1.1)∧0<gj (dbl f.1) (dbl f.2) m then 1 else 0
def e0:Ed:=((0,0),(0,0))
def nf(f:Nat→Int):Nat→Int
 |0=>0
 |k+1=>nf f k+f k
def r9(e:Ed):Sp:=(e.1.1+e.2.1,e.1.2+e.2.2)
def T9(l:List Ed)(a i:Nat):Int:=if i=a then 0 else Gs (r9 (l.getD a e0)) (l.getD i e0)
def Tn(l:List Ed)(a:Nat):Int:=nf (T9 l a) l.length+if(l.getD a e0).2.1<(l.getD a e0).1.1 then 1 else 0
def Sz(l:List Ed)(a:Nat):Int:=if(l.getD a e0).1.1=(l.getD a e0).2.1 then Tn (l.map yq) a else Tn l a
theorem aqi(m:Sp)(f:Ed): -1≤Gs m f∧Gs m f≤1:=by unfold Gs;split<;>(try split)<;>omega
theorem a6h{f:Nat→Int}(h:∀i,-1≤f i∧f i≤1):∀k:Nat,-(k:Int)≤nf f k∧nf f k≤k:=by
 intro k
 induction k with
 |zero=>simp[nf]
 |succ k ih=>have:=h k;simp only[nf];omega
theorem alc(l:List Ed)(a i:Nat): -1≤T9 l a i∧T9 l a i≤1:=by
 unfold T9;split
 ·omega
 ·exact aqi _ _
theorem Bn{l:List Ed}{k:Nat}(h:k<l.length):(l.map Bk)[k]? =some [.int .i64 (l.getD k e0).1.1,.int .i64 (l.getD k e0).1.2,.int .i64 (l.getD k e0).2.1,.int .i64 (l.getD k e0).2.2]:=by
 simp[h,Bk,bn]
def SmS(n:Int):Prop:= -1000≤n∧n≤1000
def ag4(e:Ed):Prop:=SmS e.1.1∧SmS e.1.2∧SmS e.2.1∧SmS e.2.2
theorem axw{n:Int}(h:SmS n):Mx .i64 (0-n)= -n:=by
 obtain⟨h1,h2⟩:=h
 rw[br _ (by omega) (by omega)]
 omega
section
variable{P:Program}(A:Pr P)
def au5(l:List Ed)(a:Nat)(s':PS):Prop:=
 s'.tmp 0= .d (.dt 4 (l.map Bk))∧s'.tmp 1= .d (.int .i64 a)∧s'.base=0∧s'.tmp 5= .dv 5 (s'.ver 5) 0∧s'.bm 5=some (.loc ((Bk (l.getD a e0)).map .d))
theorem avk(l:List Ed)(a:Nat)(ha:a<l.length)(hl:l.length≤1000)(hs:∀e∈l,ag4 e):fp P A.Er [Oy l,.int .i64 a] (.int .i64 (Sz l a)):=by
 refine cy A.mo A.a84 (by simp) ?_
 show jd P (Pe A.lq) (kf _ _) _
 have hsm:∀k,k<l.length→ag4 (l.getD k e0):=fun k hk=>by
  have:l.getD k e0=l[k]:=by simp[bn,hk]
  rw[this];exact hs _ (bz hk)
 have haI:(a:Int)<l.length:=by omega
 simp only[Pe,Oy,go_sem,aa,bx,ab,ag,reduceCtorEq,toNat_cast,aj,Bn ha]
 refine amt (au5 (if(l.getD a e0).1.1=(l.getD a e0).2.1 then l.map yq else l) a) ?_ ?_
 ·by_cases hv:(l.getD a e0).1.1=(l.getD a e0).2.1
  ·have hv':((l.getD a e0).1.1==(l.getD a e0).2.1)=true:=by simpa using hv
   rw[if_pos hv];simp only[go_sem,aa,hv']
   refine dq l.length (fun k s'=>s'.tmp 0= .d (.dt 4 (l.map Bk))∧s'.tmp 1= .d (.int .i64 a)∧s'.tmp 7= .d (.int .i64 k)∧s'.base=0∧s'.tmp 5= .dv 5 (s'.ver 5) 0∧s'.bm 5=some (.loc ((Bk (l.getD a e0)).map .d))∧uc s' 61 4 (((l.take k).map yq).map Bk) (s'.tmp 6)) ?_ ?_
   ·simp only[go_sem,aa,reduceCtorEq,Bk]
    exact uc.nil
   ·rintro k s' hk ⟨f0,f1,f7,eb,f5,b5,acc⟩
    by_cases iy:(k:Int)<l.length
    ·have cj:k<l.length:=by omega
     have wk:=br ((k:Int)+1) (by omega) (by omega)
     obtain⟨z1,z2,z3,z4⟩:=hsm k cj;simp only[go_sem,aa,bx,df,da,de,ab,ag,reduceCtorEq,ca,f0,f7,ae,iy,toNat_cast,aj,Bn cj,axw z2,axw z4,eb]
     refine r8 (els:=((l.take k).map yq).map Bk) (ys:=[Bk (yq (l.getD k e0))]) (osz:=some 4) ?_ ?_ rfl (by simp[Bk,D.one]) ?_ (by simp) ?_
     ·simp only[go_sem,aa]
      exact acc.mono (by simp[al]) (by simp[al])
     ·simp only[go_sem,aa,ov]
      rfl
     ·simp only[ae,bq,dh,dd]
      omega
     ·intro s2 g
      have ha2:=g.acc (by simp)
      rw[g.tmp,bh]at ha2;simp only[eh]at ha2
      have gv:=g.ver 5 (by simp)
      have gb:s2.bm 5=s'.bm 5:=by rw[g.bm];simp[al]
      simp only[go_sem,aa,reduceCtorEq,g.tmp,f0,f1,f5,f7,wk,g.base,gb,gv,b5]
      refine⟨cj,by simp,?_⟩
      rw[ey,fb,fb]
      have e1:(l[k]?.toList.map yq).map Bk=[Bk (yq (l.getD k e0))]:=by simp[cj,bn]
      rw[e1];exact ha2.mono rfl rfl
    ·have hke:k=l.length:=by omega
     subst hke;rw[eo]at acc
     have kg:(l.map yq).map Bk≠[]:=by
      intro h;simp only[dg]at h;subst h;simp at ha
     rcases acc with ⟨q,_⟩|⟨_,q1,q2⟩
     ·exact absurd q kg
     have he:PS.els s' 61 (s'.ver 61)=some (4,(l.map yq).map Bk):=by unfold PS.els;rw[if_pos rfl,q2]
     have hgt:((l.map yq).map Bk)[a]? =some (Bk ((l.map yq).getD a e0)):=by simp[ha,bn]
     simp only[go_sem,aa,ab,reduceCtorEq,f0,f1,f7,ae,iy,aiz,eb,aha,Ea,q1,V.rb,C.rb,dn,jg,or_false,q2,toNat_cast,aj,hgt,Bk,f5,b5]
     refine⟨by simp[al],by simp[al,f1],rfl,by simp[al,f5],by simp[al,Bk]⟩
  ·have hv':((l.getD a e0).1.1==(l.getD a e0).2.1)=false:=by simpa using hv
   rw[if_neg hv];simp only[go_sem,aa,hv']
   refine⟨by simp[al],by simp[al],rfl,by simp[al],by simp[al,Bk]⟩
 ·have hlen:(if(l.getD a e0).1.1=(l.getD a e0).2.1 then l.map yq else l).length=l.length:=by split<;>simp
  have awf:∀k,k<l.length→ag4 ((if(l.getD a e0).1.1=(l.getD a e0).2.1 then l.map yq else l).getD k e0):=by
   intro k hk;split
   ·have e:(l.map yq).getD k e0=yq (l.getD k e0):=by simp[bn,hk]
    rw[e];obtain⟨⟨z1,z2⟩,⟨z3,z4⟩,⟨z5,z6⟩,z7,z8⟩:=hsm k hk;refine⟨⟨?_,?_⟩,⟨?_,?_⟩,⟨?_,?_⟩,?_,?_⟩<;>simp only[yq]<;>omega
   ·exact hsm k hk
  have hln:Sz l a=Tn (if(l.getD a e0).1.1=(l.getD a e0).2.1 then l.map yq else l) a:=by
   unfold Sz;split<;>rfl
  rw[hln]
  generalize(if(l.getD a e0).1.1=(l.getD a e0).2.1 then l.map yq else l)=m at hlen awf⊢
  rintro s' ⟨f0,f1,eb,f5,b5⟩;obtain⟨⟨y1,y2⟩,⟨y3,y4⟩,⟨y5,y6⟩,y7,y8⟩:=awf a ha
  have wm1:=br ((m.getD a e0).1.1+(m.getD a e0).2.1) (by omega) (by omega)
  have wm2:=br ((m.getD a e0).1.2+(m.getD a e0).2.2) (by omega) (by omega)
  simp only[go_sem,aa,bx,df,da,de,ab,ag,reduceCtorEq,f5,b5,Bk,eb,wm1,wm2]
  refine dq m.length (fun k s'=>s'.tmp 0= .d (.dt 4 (m.map Bk))∧s'.tmp 1= .d (.int .i64 a)∧s'.tmp 10= .d (.int .i64 k)∧s'.tmp 9= .d (.int .i64 (nf (T9 m a) k))∧s'.base=0∧
   s'.tmp 5= .dv 5 (s'.ver 5) 0∧s'.bm 5=some (.loc ((Bk (m.getD a e0)).map .d))∧s'.tmp 8= .dv 8 (s'.ver 8) 0∧s'.bm 8=some (.loc [.d (.int .i64 (r9 (m.getD a e0)).1),.d (.int .i64 (r9 (m.getD a e0)).2)])) ?_ ?_
  ·simp only[go_sem,aa,reduceCtorEq,f0,f1,nf,r9,Bk,Yo,f5,b5]
  ·rintro k s2 hk ⟨f0,f1,f10,f9,eb,f5,b5,f8,b8⟩
   by_cases iy:(k:Int)<m.length
   ·have cj:k<m.length:=by omega
    have wk:=br ((k:Int)+1) (by omega) (by omega)
    obtain⟨⟨z1,z2⟩,⟨z3,z4⟩,⟨z5,z6⟩,z7,z8⟩:=awf k (by omega)
    have v1:=br (2*(m.getD k e0).1.1) (by omega) (by omega)
    have v2:=br (2*(m.getD k e0).1.2) (by omega) (by omega)
    have v3:=br (2*(m.getD k e0).2.1) (by omega) (by omega)
    have v4:=br (2*(m.getD k e0).2.2) (by omega) (by omega)
    have sb:=a6h (alc m a) k
    have w1:=br (nf (T9 m a) k+1) (by omega) (by omega)
    have w2:=br (nf (T9 m a) k-1) (by omega) (by omega)
    have hcr:=Rr A (a:=dbl (m.getD k e0).1) (b:=dbl (m.getD k e0).2) (c:=r9 (m.getD a e0)) ⟨⟨by simp only[dbl];omega,by simp only[dbl];omega⟩,by simp only[dbl];omega,by simp only[dbl];omega⟩ ⟨⟨by simp only[dbl];omega,by simp only[dbl];omega⟩,by simp only[dbl];omega,by simp only[dbl];omega⟩ ⟨⟨by simp only[r9];omega,by simp only[r9];omega⟩,by simp only[r9];omega,by simp only[r9];omega⟩
    have awp:=hcr;simp only[vt,dbl]at awp
    have hup:T9 m a k=if k=a then 0 else Gs (r9 (m.getD a e0)) (m.getD k e0):=rfl
    simp only[go_sem,aa,bx,df,da,de,ab,ag,reduceCtorEq,f0,f1,f10,ae,iy,toNat_cast,aj,Bn cj,v1,v2,v3,v4,eb];by_cases hka:k=a
    ·have q:((k:Int)==(a:Int))=true:=by simp[hka]
     simp only[go_sem,aa,bx,reduceCtorEq,f0,f1,f9,f10,f5,f8,b5,b8,q,wk,cj];simp only[nf,hup,if_pos hka,ahz];simp
    ·have q:((k:Int)==(a:Int))=false:=by simp;omega
     simp only[go_sem,aa,bx,ab,ag,reduceCtorEq,f8,b8,q];by_cases hA:2*(m.getD k e0).1.1≤(r9 (m.getD a e0)).1
     ·simp only[go_sem,aa,bx,ab,ag,reduceCtorEq,f8,b8,hA]
      by_cases hB:(r9 (m.getD a e0)).1<2*(m.getD k e0).2.1
      ·simp only[go_sem,aa,ab,f8,b8,hB]
       refine Et awp ?_;by_cases hC:gj (dbl (m.getD k e0).1) (dbl (m.getD k e0).2) (r9 (m.getD a e0))<0
       ·have hz:Gs (r9 (m.getD a e0)) (m.getD k e0)= -1:=by unfold Gs;rw[if_pos ⟨⟨hA,hB⟩,hC⟩]
        have hC':=hC;simp only[dbl]at hC';simp only[go_sem,aa,reduceCtorEq,f0,f1,f9,f10,f5,f8,b5,b8,wk,cj,hC',w2];simp only[nf,hup,if_neg hka,hz];simp;rfl
       ·have hD:¬2*(m.getD k e0).2.1≤(r9 (m.getD a e0)).1:=by omega
        have hz:Gs (r9 (m.getD a e0)) (m.getD k e0)=0:=by unfold Gs;rw[if_neg (fun h=>hC h.2),if_neg (fun h=>hD h.1.1)]
        have hC':=hC;simp only[dbl]at hC';simp only[go_sem,aa,bx,ab,ag,reduceCtorEq,f0,f1,f9,f10,f5,f8,b5,b8,wk,cj,hC',hD];simp only[nf,hup,if_neg hka,hz,ahz];simp
      ·have hD:2*(m.getD k e0).2.1≤(r9 (m.getD a e0)).1:=by omega
       have hE:¬(r9 (m.getD a e0)).1<2*(m.getD k e0).1.1:=by omega
       have hz:Gs (r9 (m.getD a e0)) (m.getD k e0)=0:=by unfold Gs;rw[if_neg (fun h=>hB h.1.2),if_neg (fun h=>hE h.1.2)]
       simp only[go_sem,aa,bx,ab,ag,reduceCtorEq,f0,f1,f9,f10,f5,f8,b5,b8,wk,cj,hB,hD,hE];simp only[nf,hup,if_neg hka,hz,ahz];simp
     ·simp only[go_sem,aa,bx,ab,ag,reduceCtorEq,f8,b8,hA]
      have hE:(r9 (m.getD a e0)).1<2*(m.getD k e0).1.1:=by omega
      by_cases hD:2*(m.getD k e0).2.1≤(r9 (m.getD a e0)).1
      ·simp only[go_sem,aa,bx,ab,ag,reduceCtorEq,f8,b8,hD,hE]
       refine Et awp ?_;by_cases hC:0<gj (dbl (m.getD k e0).1) (dbl (m.getD k e0).2) (r9 (m.getD a e0))
       ·have hz:Gs (r9 (m.getD a e0)) (m.getD k e0)=1:=by unfold Gs;rw[if_neg (fun h=>hA h.1.1),if_pos ⟨⟨hD,hE⟩,hC⟩]
        have hC':=hC;simp only[dbl]at hC';simp only[go_sem,aa,reduceCtorEq,f0,f1,f9,f10,f5,f8,b5,b8,wk,cj,hC',w1];simp only[nf,hup,if_neg hka,hz];simp
       ·have hz:Gs (r9 (m.getD a e0)) (m.getD k e0)=0:=by unfold Gs;rw[if_neg (fun h=>hA h.1.1),if_neg (fun h=>hC h.2)]
        have hC':=hC;simp only[dbl]at hC';simp only[go_sem,aa,reduceCtorEq,f0,f1,f9,f10,f5,f8,b5,b8,wk,cj,hC'];simp only[nf,hup,if_neg hka,hz,ahz];simp
      ·have hz:Gs (r9 (m.getD a e0)) (m.getD k e0)=0:=by unfold Gs;rw[if_neg (fun h=>hA h.1.1),if_neg (fun h=>hD h.1.1)]
       simp only[go_sem,aa,reduceCtorEq,f0,f1,f9,f10,f5,f8,b5,b8,wk,cj,hD];simp only[nf,hup,if_neg hka,hz,ahz];simp
   ·have:k=m.length:=by omega
    subst this;have sb:=a6h (alc m a) m.length
    have w1:=br (nf (T9 m a) m.length+1) (by omega) (by omega)
    by_cases hg:(m.getD a e0).2.1<(m.getD a e0).1.1
    ·simp only[go_sem,aa,bx,ab,ag,reduceCtorEq,f0,f9,f10,ae,iy,f5,b5,Bk,hg,w1,Tn]
    ·simp only[go_sem,aa,bx,ab,ag,reduceCtorEq,f0,f9,f10,ae,iy,f5,b5,Bk,hg,Tn,ahz]
end
def Dq(a:Sp):Bool:=decide (-500≤a.1)&&(decide (a.1≤500)&&(decide (-500≤a.2)&&decide (a.2≤500)))
theorem cr2{u v:Sp}(hu:SmP u)(hv:SmP v):Mx .i64 (u.1*v.2)=u.1*v.2∧Mx .i64 (u.2*v.1)=u.2*v.1∧Mx .i64 (u.1*v.2-u.2*v.1)=u.1*v.2-u.2*v.1∧
  Mx .i64 (u.1*v.1)=u.1*v.1∧Mx .i64 (u.2*v.2)=u.2*v.2∧Mx .i64 (u.1*v.1+u.2*v.2)=u.1*v.1+u.2*v.2:=by
 obtain⟨⟨a1,a2⟩,a3,a4⟩:=hu;obtain⟨⟨b1,b2⟩,b3,b4⟩:=hv
 have m1:=a3i (x:=u.1) (y:=v.2) (by omega) (by omega)
 have m2:=a3i (x:=u.2) (y:=v.1) (by omega) (by omega)
 have m3:=a3i (x:=u.1) (y:=v.1) (by omega) (by omega)
 have m4:=a3i (x:=u.2) (y:=v.2) (by omega) (by omega)
 exact⟨br _ (by omega) (by omega),br _ (by omega) (by omega),br _ (by omega) (by omega),br _ (by omega) (by omega),br _ (by omega) (by omega),br _ (by omega) (by omega)⟩
theorem aDx(u v:Sp):0≤clk u v∧clk u v≤3:=by unfold clk;split<;>(try split)<;>(try split)<;>omega
section
variable{P:Program}(A:Pr P)
theorem Xy{u v:Sp}(hu:SmP u)(hv:SmP v):fp P A.uw [vt u,vt v] (.int .i64 (clk u v)):=by
 refine cy A.mo A.Va (by simp) ?_
 show jd P H8 (kf _ _) _;obtain⟨w1,w2,w3,w4,w5,w6⟩:=cr2 hu hv;simp only[H8,vt,go_sem,aa,bx,df,da,de,ab,ag,reduceCtorEq,w1,w2,w3,w4,w5,w6];by_cases h1:u.1*v.2-u.2*v.1<0
 ·simp only[go_sem,aa,h1,clk]
 ·simp only[go_sem,aa,reduceCtorEq,h1]
  by_cases h2:0<u.1*v.2-u.2*v.1
  ·simp only[go_sem,aa,h1,h2,clk]
  ·simp only[go_sem,aa,reduceCtorEq,h2]
   by_cases h3:u.1*v.1+u.2*v.2<0
   ·simp only[go_sem,aa,h1,h2,h3,clk]
   ·simp only[go_sem,aa,h1,h2,h3,clk]
theorem alv{u x y:Sp}(hu:SmP u)(hx:SmP x)(hy:SmP y):fp P A.Bz [vt u,vt x,vt y] (.bool (a3b u x y)):=by
 refine cy A.mo A.a1g (by simp) ?_
 show jd P (Lk A.uw) (kf _ _) _;obtain⟨w1,w2,w3,w4,w5,w6⟩:=cr2 hx hy;have c1:=Xy A hu hx;have c2:=Xy A hu hy;simp only[vt]at c1 c2;simp only[Lk,vt,go_sem,aa,ab];refine gf c1 ?_;simp only[go_sem,aa,ab];refine gf c2 ?_;simp only[go_sem,aa,reduceCtorEq];by_cases h:clk u x=clk u y
 ·have h':(clk u x !=clk u y)=false:=by simp[h]
  simp only[go_sem,aa,bx,df,da,de,ab,ag,reduceCtorEq,h',w1,w2,w3,a3b,if_pos h]
 ·have h':(clk u x !=clk u y)=true:=by simp[h]
  simp only[go_sem,aa,reduceCtorEq,h',a3b,if_neg h]
theorem aqr(a:Sp):fp P A.D2 [vt a] (.bool (Dq a)):=by
 refine cy A.mo A.a3s (by simp) ?_
 show jd P Cx (kf _ _) _;unfold Dq;by_cases h1: -500≤a.1
 ·by_cases h2:a.1≤500
  ·by_cases h3: -500≤a.2
   ·simp only[Cx,vt,go_sem,aa,bx,df,bc,da,de,ab,ag,reduceCtorEq,h1,h2,h3]
   ·simp only[Cx,vt,go_sem,aa,bx,df,bc,da,de,ab,ag,reduceCtorEq,h1,h2,h3,cz]
  ·simp only[Cx,vt,go_sem,aa,bx,bc,ab,ag,reduceCtorEq,h1,h2,cz]
 ·simp only[Cx,vt,go_sem,aa,bx,bc,ab,ag,reduceCtorEq,h1,cz]
end
def ru(a b:Sp):Bool:=a.1==b.1&&a.2==b.2
def jq(a b:Sp):Sp:=(a.1-b.1,a.2-b.2)
def Sr(back d w:Sp):Bool:= !(!ru w back&&(!ru w d&&a3b back w d))
def W5(p at_ nx:Sp)(e:Ed):Bool:=
 if ru at_ e.1 then Sr (jq p at_) (jq nx at_) (jq e.2 at_)
 else if ru at_ e.2 then Sr (jq p at_) (jq nx at_) (jq e.1 at_)else true
def Dl(l:List Sp)(k:Nat)(e:Ed):Bool:=W5 (l.getD k (0,0)) (l.getD ((k+1)%l.length) (0,0)) (l.getD ((k+2)%l.length) (0,0)) e
def Ld(ls:List (List Sp))(es:List Ed):Bool:=
 (cq ls.length).all fun i=>(cq (ls.getD i []).length).all fun k=>(cq es.length).all fun j=>Dl (ls.getD i []) k (es.getD j e0)
theorem ad6{k n:Nat}:((k:Int)+2).tmod n=(((k+2)%n:Nat):Int):=by
 rw[axs (by omega)]
 exact(Int.natCast_emod (k+2) n).symm
def SmL(p:Sp):Prop:=SmS p.1∧SmS p.2
theorem SmL.sub{a b:Sp}(ha:SmL a)(hb:SmL b):SmP (jq a b):=by
 obtain⟨⟨a1,a2⟩,a3,a4⟩:=ha;obtain⟨⟨b1,b2⟩,b3,b4⟩:=hb;refine⟨⟨?_,?_⟩,?_,?_⟩<;>simp only[jq]<;>omega
theorem SmL.p{a:Sp}(ha:SmL a):SmP a:=by
 obtain⟨⟨a1,a2⟩,a3,a4⟩:=ha
 exact⟨⟨by omega,by omega⟩,by omega,by omega⟩
section
variable{P:Program}(A:Pr P)
theorem a9u{a b:Sp}(ha:SmL a)(hb:SmL b):fp P A.ss [.agg [.int .i64 a.1,.int .i64 a.2],.agg [.int .i64 b.1,.int .i64 b.2]] (.agg [.int .i64 (a.1-b.1),.int .i64 (a.2-b.2)]):=
 aqx A ha.p hb.p
def a94(ls:List (List Sp))(es:List Ed)(i k n:Nat)(p at_ nx:Sp)(s':PS):Prop:=
 s'.tmp 0= .d (.dt 1 (ls.map fun l=>[se l]))∧s'.tmp 1= .d (.dt 4 (es.map Bk))∧s'.tmp 5= .d (.int .i64 i)∧s'.tmp 6= .d (.int .i64 n)∧s'.tmp 7= .d (.int .i64 k)∧s'.base=0∧
 s'.tmp 8= .dv 8 (s'.ver 8) 0∧s'.bm 8=some (.loc [.d (.int .i64 at_.1),.d (.int .i64 at_.2)])∧
 s'.tmp 9= .dv 9 (s'.ver 9) 0∧s'.bm 9=some (.loc [.d (.int .i64 nx.1),.d (.int .i64 nx.2)])∧
 s'.tmp 10= .dv 10 (s'.ver 10) 0∧s'.bm 10=some (.loc [.d (.int .i64 (p.1-at_.1)),.d (.int .i64 (p.2-at_.2))])
theorem aqn(ls:List (List Sp))(es:List Ed)(h1:ls.length≤1000)(h2:es.length≤1000)(h3:∀l∈ls,l.length≤1000∧∀p∈l,SmL p)(h4:∀e∈es,SmL e.1∧SmL e.2):
  fp P A.D1 [jv ls,Oy es] (.bool (Ld ls es)):=by
 refine cy A.mo A.a3r (by simp) ?_
 show jd P (N9 A.ss A.Bz) (kf _ _) _;simp only[N9,jv,Oy,go_sem]
 refine dq ls.length (fun i s'=>s'.tmp 0= .d (.dt 1 (ls.map fun l=>[se l]))∧s'.tmp 1= .d (.dt 4 (es.map Bk))∧s'.tmp 5= .d (.int .i64 i)∧s'.base=0∧
  ∀i',i'<i→((cq (ls.getD i' []).length).all fun k=>(cq es.length).all fun j=>Dl (ls.getD i' []) k (es.getD j e0))=true) ?_ ?_
 ·simp only[go_sem,aa,reduceCtorEq]
  simp
 ·rintro i s' hi ⟨f0,f1,f5,eb,hI⟩
  by_cases iy:(i:Int)<ls.length
  ·have cj:i<ls.length:=by omega
   have wi:=br ((i:Int)+1) (by omega) (by omega)
   have hgi:=Cf cj
   have hli:ls.getD i []=ls[i]:=by simp[bn,cj]
   obtain⟨hn,hp⟩:=h3 ls[i] (bz cj);simp only[go_sem,aa,reduceCtorEq,f0,f5,ae,iy,hgi,toNat_cast,aj]
   refine dq ls[i].length (fun k s'=>s'.tmp 0= .d (.dt 1 (ls.map fun l=>[se l]))∧s'.tmp 1= .d (.dt 4 (es.map Bk))∧s'.tmp 5= .d (.int .i64 i)∧s'.tmp 6= .d (.int .i64 ls[i].length)∧s'.tmp 7= .d (.int .i64 k)∧s'.base=0∧
    ∀k',k'<k→((cq es.length).all fun j=>Dl (ls.getD i []) k' (es.getD j e0))=true) ?_ ?_
   ·simp only[go_sem,aa,reduceCtorEq,f0,f1,f5,eb]
    simp
   ·rintro k s' hk ⟨f0,f1,f5,f6,f7,eb,hK⟩
    by_cases Ch:(k:Int)<ls[i].length
    ·have mq:k<ls[i].length:=by omega
     have wk:=br ((k:Int)+1) (by omega) (by omega)
     have wk2:=br ((k:Int)+2) (by omega) (by omega)
     have hm1:(k+1)%ls[i].length<ls[i].length:=a30 _ (by omega)
     have hm2:(k+2)%ls[i].length<ls[i].length:=a30 _ (by omega)
     have kg:¬((ls[i].length:Nat):Int)=0:=by omega
     have sm:∀q,q<ls[i].length→SmL (ls[i].getD q (0,0)):=fun q hq=>by
      have:ls[i].getD q (0,0)=ls[i][q]:=by simp[bn,hq]
      rw[this];exact hp _ (bz hq)
     have s1:=sm _ hm1;have s2:=sm _ hm2;have s0:=sm _ mq
     have L5:(∀e,Dl (ls.getD i []) k e=W5 (ls[i].getD k (0,0)) (ls[i].getD ((k+1)%ls[i].length) (0,0)) (ls[i].getD ((k+2)%ls[i].length) (0,0)) e):=fun e=>by unfold Dl;rw[hli]
     simp only[go_sem,aa,ab,reduceCtorEq,f0,f5,f6,f7,eb,Ch,hgi,toNat_cast,aj,wk,wk2,W6,ad6,kg,Bm hm1,Bm hm2,Bm mq];refine gf (a9u A s0 s1) ?_;generalize ls[i].getD k (0,0)=p at s0 L5⊢;generalize ls[i].getD ((k+1)%ls[i].length) (0,0)=at_ at s1 L5⊢;generalize ls[i].getD ((k+2)%ls[i].length) (0,0)=nx at s2 L5⊢;simp only[go_sem,aa,ab]
     refine dq es.length (fun j s'=>a94 ls es i k ls[i].length p at_ nx s'∧s'.tmp 11= .d (.int .i64 j)∧∀j',j'<j→Dl (ls.getD i []) k (es.getD j' e0)=true) ?_ ?_
     ·simp only[a94,go_sem,aa,reduceCtorEq,f0,f1,f5,f6,f7]
      simp
     ·rintro j s' hj ⟨⟨f0,f1,f5,f6,f7,eb,f8,b8,f9,b9,f10,b10⟩,f11,hJ⟩
      by_cases aoc:(j:Int)<es.length
      ·have Qs:j<es.length:=by omega
       have wj:=br ((j:Int)+1) (by omega) (by omega)
       have hej:es.getD j e0=es[j]:=by simp[bn,Qs]
       obtain⟨q1,q2⟩:=h4 es[j] (bz Qs);have hge:=Bn Qs;rw[hej]at hge;simp only[go_sem,aa,ab,ag,reduceCtorEq,f1,eb,f8,b8,f11,ae,aoc,hge,toNat_cast,aj]
       have bad:Dl (ls.getD i []) k (es.getD j e0)=false→Ld ls es=false:=fun hb=>
        all_false cj (all_false (k:=k) (by rw[hli];exact mq) (all_false Qs hb))
       refine rv (fun s'=>a94 ls es i k ls[i].length p at_ nx s'∧s'.tmp 11= .d (.int .i64 j)∧∃w:Sp,SmP w∧Dl (ls.getD i []) k (es.getD j e0)=Sr (jq p at_) (jq nx at_) w∧s'.tmp 12= .dv 12 (s'.ver 12) 0∧s'.bm 12=some (.loc [.d (.int .i64 w.1),.d (.int .i64 w.2)])) ?_ ?_
       ·cases hA:(at_.1==es[j].1.1&&at_.2==es[j].1.2)
        ·simp only[go_sem,aa,ab,f1,f11,hge,toNat_cast,aj]
         cases hB:(at_.1==es[j].2.1&&at_.2==es[j].2.2)
         ·have hok:Dl (ls.getD i []) k (es.getD j e0)=true:=by
           rw[L5,hej];unfold W5 ru;rw[hA,hB];rfl
          simp only[go_sem,aa,reduceCtorEq,f0,f1,f5,f6,f7,f11,wj,Qs];simp only[a94,go_sem,aa,reduceCtorEq,f0,f1,f5,f6,f7,f8,b8,f9,b9,f10,b10];simp;exact og hJ hok
         ·have hok:Dl (ls.getD i []) k (es.getD j e0)=Sr (jq p at_) (jq nx at_) (jq es[j].1 at_):=by
           rw[L5,hej];unfold W5 ru;rw[hA,hB];rfl
          simp only[go_sem,aa,ab,ag,f1,f8,b8,f11,hge,toNat_cast,aj];refine gf (a9u A q1 s1) ?_;simp only[go_sem,aa,ab,f11]
          exact⟨by simp only[a94,go_sem,aa,reduceCtorEq,f0,f1,f5,f6,f7,f8,b8,f9,b9,f10,b10],_,q1.sub s1,hok,rfl⟩
        ·have hok:Dl (ls.getD i []) k (es.getD j e0)=Sr (jq p at_) (jq nx at_) (jq es[j].2 at_):=by
          rw[L5,hej];unfold W5 ru;rw[hA];rfl
         simp only[go_sem,aa,ab,f1,f8,b8,f11,hge,toNat_cast,aj];refine gf (a9u A q2 s1) ?_;simp only[go_sem,aa,ab,f11]
         exact⟨by simp only[a94,go_sem,aa,reduceCtorEq,f0,f1,f5,f6,f7,f8,b8,f9,b9,f10,b10],_,q2.sub s1,hok,rfl⟩
       ·rintro s3 ⟨⟨f0,f1,f5,f6,f7,eb,f8,b8,f9,b9,f10,b10⟩,f11,w,hw,hok,f12,b12⟩
        have hs:=alv A (s0.sub s1) hw (s2.sub s1);simp only[vt,jq]at hs;cases c1:(w.1==(jq p at_).1&&w.2==(jq p at_).2)
        ·have c1':=c1
         simp only[jq]at c1';simp only[go_sem,aa,ab,eb,f8,b8,f9,b9,f10,b10,f12,b12,c1'];refine gf (a9u A s2 s1) ?_;cases c2:(w.1==(jq nx at_).1&&w.2==(jq nx at_).2)
         ·have c2':=c2
          simp only[jq]at c2';simp only[go_sem,aa,ab,f8,b8,f9,b9,f10,b10,f12,b12,c2'];refine gf (a9u A s2 s1) ?_;simp only[go_sem,aa];refine Et hs ?_;cases c3:a3b (jq p at_) w (jq nx at_)
          ·have c3':=c3
           simp only[jq]at c3'
           have ok:Dl (ls.getD i []) k (es.getD j e0)=true:=by rw[hok];unfold Sr ru;rw[c1,c2,c3];rfl
           simp only[go_sem,aa,reduceCtorEq,f11,wj,Qs,c3'];simp only[a94,go_sem,aa,reduceCtorEq,f0,f1,f5,f6,f7,f8,b8,f9,b9,f10,b10];simp;exact og hJ ok
          ·have c3':=c3
           simp only[jq]at c3'
           have no:Dl (ls.getD i []) k (es.getD j e0)=false:=by rw[hok];unfold Sr ru;rw[c1,c2,c3];rfl
           simp only[go_sem,aa,c3',bad no]
         ·have c2':=c2
          simp only[jq]at c2'
          have ok:Dl (ls.getD i []) k (es.getD j e0)=true:=by rw[hok];unfold Sr ru;rw[c1,c2];rfl
          simp only[go_sem,aa,reduceCtorEq,f11,wj,Qs,c2'];simp only[a94,go_sem,aa,reduceCtorEq,f0,f1,f5,f6,f7,f8,b8,f9,b9,f10,b10];simp;exact og hJ ok
        ·have c1':=c1
         simp only[jq]at c1'
         have ok:Dl (ls.getD i []) k (es.getD j e0)=true:=by rw[hok];unfold Sr ru;rw[c1];rfl
         simp only[go_sem,aa,ab,reduceCtorEq,eb,f10,b10,f11,wj,Qs,f12,b12,c1'];simp only[a94,go_sem,aa,reduceCtorEq,f0,f1,f5,f6,f7,f8,b8,f9,b9,f10,b10];simp;exact og hJ ok
      ·have:j=es.length:=by omega
       subst this;simp only[go_sem,aa,reduceCtorEq,f0,f1,f5,f6,f7,eb,f11,ae,aoc,wk]
       exact⟨mq,by simp,og hK (all_true fun j' hj'=>hJ j' hj')⟩
    ·have:k=ls[i].length:=by omega
     subst this;simp only[go_sem,aa,reduceCtorEq,f0,f1,f5,f6,f7,eb,Ch,wi]
     exact⟨cj,by simp,og hI (all_true fun k' hk'=>hK k' (by rw[hli]at hk';exact hk'))⟩
  ·have:i=ls.length:=by omega
   subst this;simp only[go_sem,aa,reduceCtorEq,f0,f5,ae,iy]
   have:Ld ls es=true:=all_true fun i' Dx=>hI i' Dx
   rw[this]
end
def tj(ls:List (List Sp)):Nat:=(ls.map Cq).sum
def F4(ls:List (List Sp))(i:Nat):Bool:=
 decide (3≤(ls.getD i []).length)&&(decide (tj (ls.take (i+1))≤60)&&(cq (ls.getD i []).length).all fun k=>Dq ((ls.getD i []).getD k (0,0)))
def a7o(ls:List (List Sp)):Bool:=(cq ls.length).all (F4 ls)
def Vp(e f:Ed):Bool:=e.1.1==f.1.1&&(e.1.2==f.1.2&&(e.2.1==f.2.1&&e.2.2==f.2.2))
def X0(e f:Ed):Bool:=(!ru f.1 e.1&&(!ru f.1 e.2&&onB e f.1))||Km e f
def U1(i k:Nat)(e f:Ed):Bool:=decide (i≠k)&&(Vp e f||(ru e.1 f.2&&ru e.2 f.1))
def R8(es:List Ed)(i:Nat):Bool:=
 !ru (es.getD i e0).1 (es.getD i e0).2&&(cq es.length).all fun k=> !X0 (es.getD i e0) (es.getD k e0)&& !U1 i k (es.getD i e0) (es.getD k e0)
def Eg(es:List Ed):Bool:=(cq es.length).all (R8 es)
def Tm(es:List Ed):Bool:=(cq es.length).all fun i=>Sz es i==1
def oh(ls:List (List Sp)):Bool:=a7o ls&&(Eg (fl ls)&&(Tm (fl ls)&&Ld ls (fl ls)))
theorem Mg{ls:List (List Sp)}{i:Nat}(h:i<ls.length):tj (ls.take (i+1))=tj (ls.take i)+(ls.getD i []).length:=by
 unfold tj
 have e:ls[i]?.toList=[ls[i]]:=by simp[h]
 rw[ey,e,fb,aEr];simp only[cu,ez,aFz,List.sum_nil,xu,bn,ao h,j3]
theorem L9(ls:List (List Sp)):(fl ls).length=tj ls:=by
 unfold fl tj
 induction ls with
 |nil=>rfl
 |cons l r ih=>simp[tu,ih]
theorem aee{ls:List (List Sp)}(h:∀i,i<ls.length→F4 ls i=true):∀k,k≤ls.length→3*k≤tj (ls.take k):=by
 intro k
 induction k with
 |zero=>intro _;simp
 |succ k ih=>
  intro hk
  have h1:=ih (by omega)
  have h2:=h k (by omega)
  unfold F4 at h2;simp only[cd,decide_eq_true_eq]at h2
  rw[Mg (by omega)]
  omega
theorem Og{p:Sp}(h:Dq p=true):SmL p:=by
 unfold Dq at h;simp only[cd,decide_eq_true_eq]at h
 exact⟨⟨by omega,by omega⟩,by omega,by omega⟩
theorem a5g{ls:List (List Sp)}{e:Ed}(h:e∈fl ls):∃l∈ls,e.1∈l∧e.2∈l:=by
 unfold fl at h;obtain⟨l,hl,he⟩:=M9.1 h;refine⟨l,hl,?_⟩;unfold i7 at he;obtain⟨k,hk,rfl⟩:=jc.1 he;have hk':=du.1 hk
 have hm:(k+1)%l.length<l.length:=a30 _ (by omega)
 unfold yo
 have e1:l.getD k (0,0)=l[k]:=by simp[bn,hk']
 have e2:l.getD ((k+1)%l.length) (0,0)=l[(k+1)%l.length]:=by simp[bn,hm]
 rw[e1,e2];exact⟨bz hk',bz hm⟩
theorem Y5{ls:List (List Sp)}(h:a7o ls=true):ls.length≤20∧tj ls≤60∧∀l∈ls,l.length≤60∧∀p∈l,Dq p=true:=by
 have zx:∀i,i<ls.length→F4 ls i=true:=fun i hi=>ck.1 h i (du.2 hi)
 have ayv:tj ls≤60:=by
  by_cases h0:ls.length=0
  ·have:ls=[]:=jb h0
   subst this;simp[tj]
  ·have:=zx (ls.length-1) (by omega)
   unfold F4 at this;simp only[cd,decide_eq_true_eq]at this
   have e:ls.length-1+1=ls.length:=by omega
   rw[e,eo]at this;exact this.2.1
 have hl:=aee zx ls.length (ar _);rw[eo]at hl
 refine⟨by omega,ayv,fun l hl=>?_⟩
 obtain⟨i,hi,rfl⟩:=fj.1 hl;have:=zx i hi
 have e:ls.getD i []=ls[i]:=by simp[bn,hi]
 unfold F4 at this;rw[e]at this;simp only[cd,decide_eq_true_eq]at this
 refine⟨?_,fun p hp=>?_⟩
 ·have h1:=this.2.1
  rw[Mg hi,e]at h1;omega
 ·obtain⟨k,hk,rfl⟩:=fj.1 hp
  have:=ck.1 this.2.2 k (du.2 hk);simpa[bn,hk]using this
section
variable{P:Program}(A:Pr P)
theorem ais(ls:List (List Sp))(h1:ls.length≤2^30)(h2:∀l∈ls,l.length≤2^30):fp P A.D3 [jv ls] (.bool (oh ls)):=by
 refine cy A.mo A.a3u (by simp) ?_
 show jd P (Nb A.D2 A.Bc A.J0 A.zf A.Er A.D1) (kf _ _) _;simp only[Nb,jv,go_sem]
 refine dq ls.length (fun i s'=>s'.tmp 0= .d (.dt 1 (ls.map fun l=>[se l]))∧s'.tmp 4= .d (.int .i64 i)∧s'.tmp 3= .d (.int .i64 (tj (ls.take i):Nat))∧tj (ls.take i)≤60∧∀i',i'<i→F4 ls i'=true) ?_ ?_
 ·simp only[go_sem,aa,reduceCtorEq]
  simp[tj]
 ·rintro i s' hi ⟨f0,f4,f3,ht,hI⟩
  by_cases iy:(i:Int)<ls.length
  ·have cj:i<ls.length:=by omega
   have wi:=br ((i:Int)+1) (by omega) (by omega)
   have hgi:=Cf cj
   have hli:ls.getD i []=ls[i]:=by simp[bn,cj]
   have hbl:=h2 ls[i] (bz cj);have htt:=Mg cj;rw[hli]at htt
   have wt:=br ((tj (ls.take i):Int)+ls[i].length) (by omega) (by omega)
   have no:F4 ls i=false→oh ls=false:=fun h=>by unfold oh;rw[show a7o ls=false from all_false cj h];rfl
   simp only[go_sem,aa,reduceCtorEq,f0,f3,f4,ae,iy,hgi,toNat_cast,aj,wt];by_cases c1:(ls[i].length:Int)<3
   ·have:F4 ls i=false:=by unfold F4;rw[hli,decide_eq_false (by omega)];rfl
    simp only[go_sem,aa,c1,no this]
   ·by_cases c2:(60:Int)<(tj (ls.take i):Int)+ls[i].length
    ·have:F4 ls i=false:=by
      unfold F4
      have:¬tj (ls.take (i+1))≤60:=by omega
      simp only[this,decide_false,cz,o9]
     simp only[go_sem,aa,reduceCtorEq,f3,c1,c2,no this]
    ·simp only[go_sem,aa,reduceCtorEq,f3,c1,c2]
     refine dq ls[i].length (fun k s'=>s'.tmp 0= .d (.dt 1 (ls.map fun l=>[se l]))∧s'.tmp 4= .d (.int .i64 i)∧s'.tmp 5= .d (.int .i64 k)∧s'.tmp 3= .d (.int .i64 ((tj (ls.take i):Int)+ls[i].length))∧∀k',k'<k→Dq ((ls.getD i []).getD k' (0,0))=true) ?_ ?_
     ·simp only[go_sem,aa,reduceCtorEq,f0,f4]
      simp
     ·rintro k s' hk ⟨f0,f4,f5,f3,hK⟩
      by_cases Ch:(k:Int)<ls[i].length
      ·have mq:k<ls[i].length:=by omega
       have wk:=br ((k:Int)+1) (by omega) (by omega)
       simp only[go_sem,aa,ab,reduceCtorEq,f0,f4,f5,ae,Ch,hgi,toNat_cast,aj,Bm mq];refine ee (aqr A _) ?_;cases c3:Dq (ls[i].getD k (0,0))
       ·have:F4 ls i=false:=by
         unfold F4
         rw[all_false (k:=k) (by rw[hli];exact mq) (by rw[hli];exact c3)]
         simp only[o9]
        simp only[go_sem,aa,no this]
       ·simp only[go_sem,aa,reduceCtorEq,f0,f3,f4,f5,wk,mq]
        exact⟨by simp,og hK (by rw[hli];exact c3)⟩
      ·simp only[go_sem,aa,reduceCtorEq,f0,f3,f4,f5,ae,Ch,hgi,toNat_cast,aj,wi,cj]
       refine⟨by simp,?_,by omega,og hI ?_⟩
       ·rw[htt];simp
       ·unfold F4
        rw[hli,decide_eq_true (by omega),decide_eq_true (by omega),all_true fun k' hk'=>by have:=hK k' (by omega);rw[hli]at this;exact this]
        rfl
  ·have:i=ls.length:=by omega
   subst this;have hlo:a7o ls=true:=all_true hI;obtain⟨g1,g2,g3⟩:=Y5 hlo;have hel:=L9 ls
   have hed:=ar8 A ls h1 (by omega)
   have hsm:∀e∈fl ls,SmL e.1∧SmL e.2:=fun e he=>by
    obtain⟨l,hl,k1,k2⟩:=a5g he;exact⟨Og ((g3 l hl).2 _ k1),Og ((g3 l hl).2 _ k2)⟩
   have htu:=aqn A ls (fl ls) (by omega) (by omega) (fun l hl=>⟨by have:=(g3 l hl).1;omega,fun p hp=>Og ((g3 l hl).2 p hp)⟩) hsm
   simp only[jv]at hed htu;simp only[go_sem,aa,reduceCtorEq,f0,f4,ae,iy];refine ee hed ?_
   have hrp:oh ls=(Eg (fl ls)&&(Tm (fl ls)&&Ld ls (fl ls))):=by unfold oh;rw[hlo];rfl
   rw[hrp]
   have hle:(fl ls).length≤60:=by omega
   generalize fl ls=es at hle hsm htu⊢;simp only[Oy]at htu⊢;simp only[go_sem,aa]
   have hsE:∀k,k<es.length→SmE (es.getD k e0)∧ag4 (es.getD k e0):=fun k hk=>by
    have e:es.getD k e0=es[k]:=by simp[bn,hk]
    rw[e];obtain⟨z1,z2⟩:=hsm es[k] (bz hk);exact⟨⟨z1.p,z2.p⟩,z1.1,z1.2,z2.1,z2.2⟩
   refine dq es.length (fun i s'=>s'.tmp 0= .d (.dt 1 (ls.map fun l=>[se l]))∧s'.tmp 6= .d (.dt 4 (es.map Bk))∧s'.tmp 7= .d (.int .i64 i)∧∀i',i'<i→R8 es i'=true) ?_ ?_
   ·simp only[go_sem,aa,reduceCtorEq,f0]
    simp
   ·clear f3 f4 f0
    rintro i s1 hi1 ⟨f0,f6,f7,hI1⟩;by_cases az6:(i:Int)<es.length
    ·have a1a:i<es.length:=by omega
     have wi:=br ((i:Int)+1) (by omega) (by omega)
     have no:R8 es i=false→(Eg es&&(Tm es&&Ld ls es))=false:=fun h=>by rw[show Eg es=false from all_false a1a h];rfl
     simp only[go_sem,aa,ab,ag,reduceCtorEq,f6,f7,ae,az6,Bn a1a,toNat_cast,aj];cases c1:((es.getD i e0).1.1==(es.getD i e0).2.1&&(es.getD i e0).1.2==(es.getD i e0).2.2)
     ·simp only[go_sem,aa]
      refine dq es.length (fun k s'=>s'.tmp 0= .d (.dt 1 (ls.map fun l=>[se l]))∧s'.tmp 6= .d (.dt 4 (es.map Bk))∧s'.tmp 7= .d (.int .i64 i)∧s'.tmp 8= .d (.int .i64 k)∧∀k',k'<k→(!X0 (es.getD i e0) (es.getD k' e0)&& !U1 i k' (es.getD i e0) (es.getD k' e0))=true) ?_ ?_
      ·simp only[go_sem,aa,reduceCtorEq,f0,f6,f7]
       simp
      ·rintro k s2 hk2 ⟨f0,f6,f7,f8,hK⟩
       by_cases Ch:(k:Int)<es.length
       ·have mq:k<es.length:=by omega
        have wk:=br ((k:Int)+1) (by omega) (by omega)
        have no2:(!X0 (es.getD i e0) (es.getD k e0)&& !U1 i k (es.getD i e0) (es.getD k e0))=false→(Eg es&&(Tm es&&Ld ls es))=false:=fun h=>no (by
         unfold R8
         rw[all_false mq h,o9])
        have hon:=aB5 A (hsE i a1a).1 (hsE k mq).1.1;have hcr:=adl A (hsE i a1a).1 (hsE k mq).1;simp only[dEd,vt]at hon hcr;simp only[go_sem,aa,ab,ag,reduceCtorEq,f6,f7,f8,ae,Ch,Bn a1a,Bn mq,toNat_cast,aj];have gi:=Bn a1a;have gk:=Bn mq
        generalize hei:es.getD i e0=ei at*
        generalize hek:es.getD k e0=ek at*
        refine Ur (fun s'=>s'.tmp 0= .d (.dt 1 (ls.map fun l=>[se l]))∧s'.tmp 6= .d (.dt 4 (es.map Bk))∧s'.tmp 7= .d (.int .i64 i)∧s'.tmp 8= .d (.int .i64 k)∧s'.tmp 122= .d (.bool (X0 ei ek))) ?_ ?_
        ·cases c2:(ek.1.1==ei.1.1&&ek.1.2==ei.1.2)
         ·cases c3:(ek.1.1==ei.2.1&&ek.1.2==ei.2.2)
          ·simp only[go_sem,aa,ab,ag,f6,f7,f8,gi,gk,toNat_cast,aj,c3]
           refine gf hon ?_;cases c4:onB ei ek.1
           ·simp only[go_sem,aa,ab,f6,f7,f8,gi,gk,toNat_cast,aj]
            refine gf hcr ?_;simp only[go_sem,aa,reduceCtorEq,f0,f6,f7,f8,X0,ru,c2,c3,c4,Mz,o9]
           ·simp only[go_sem,aa,reduceCtorEq,f0,f6,f7,f8,X0,ru,c2,c3,c4,Jh]
          ·simp only[go_sem,aa,ab,ag,f6,f7,f8,gi,gk,toNat_cast,aj,c3]
           refine gf hcr ?_;simp only[go_sem,aa,reduceCtorEq,f0,f6,f7,f8,X0,ru,c2,c3,Mz,cz,o9]
         ·simp only[go_sem,aa,ab,f6,f7,f8,gi,gk,toNat_cast,aj]
          refine gf hcr ?_;simp only[go_sem,aa,reduceCtorEq,f0,f6,f7,f8,X0,ru,c2,Mz,cz]
        ·rintro s3 ⟨f0,f6,f7,f8,f122⟩
         cases c5:X0 ei ek
         ·rw[c5]at f122
          simp only[go_sem,aa,reduceCtorEq,f7,f8,f122]
          refine Ur (fun s'=>s'.tmp 0= .d (.dt 1 (ls.map fun l=>[se l]))∧s'.tmp 6= .d (.dt 4 (es.map Bk))∧s'.tmp 7= .d (.int .i64 i)∧s'.tmp 8= .d (.int .i64 k)∧s'.tmp 162= .d (.bool (U1 i k ei ek))) ?_ ?_
          ·by_cases c6:i=k
           ·have c6':((i:Int) !=(k:Int))=false:=by simp[c6]
            have hd:U1 i k ei ek=false:=by unfold U1;simp[c6]
            simp only[go_sem,aa,reduceCtorEq,f0,f6,f7,f8,c6',hd]
           ·have c6':((i:Int) !=(k:Int))=true:=by simp;omega
            simp only[go_sem,aa,ab,f6,f7,f8,c6',gi,gk,toNat_cast,aj];cases c7:(ei.1.1==ek.1.1&&(ei.1.2==ek.1.2&&(ei.2.1==ek.2.1&&ei.2.2==ek.2.2)))
            ·cases c8:(ei.1.1==ek.2.1&&ei.1.2==ek.2.2)
             ·simp only[go_sem,aa,ab,ag,reduceCtorEq,f0,f6,f7,f8,c7,c8,gi,gk,toNat_cast,aj,U1,Vp,ru,c6,Mz,cz,o9]
             ·simp only[go_sem,aa,ab,ag,reduceCtorEq,f0,f6,f7,f8,c7,c8,gi,gk,toNat_cast,aj,U1,Vp,ru,c6,Mz]
            ·simp only[go_sem,aa,reduceCtorEq,f0,f6,f7,f8,c7,U1,Vp,ru,c6,Jh]
          ·rintro s4 ⟨f0,f6,f7,f8,f162⟩
           cases c9:U1 i k ei ek
           ·rw[c9]at f162
            simp only[go_sem,aa,reduceCtorEq,f0,f6,f7,f8,wk,mq,f162]
            exact⟨by simp,og hK (by rw[hek,c5,c9];rfl)⟩
           ·rw[c9]at f162
            simp only[go_sem,f162,no2 (by rw[c5,c9];rfl)]
         ·rw[c5]at f122
          simp only[go_sem,f122,no2 (by rw[c5];rfl)]
       ·have:k=es.length:=by omega
        subst this;simp only[go_sem,aa,reduceCtorEq,f0,f6,f7,f8,ae,Ch,wi,a1a]
        refine⟨by simp,og hI1 ?_⟩
        unfold R8 ru;rw[c1,all_true hK];rfl
     ·have:R8 es i=false:=by unfold R8 ru;rw[c1];rfl
      simp only[go_sem,aa,no this]
    ·have:i=es.length:=by omega
     subst this;have heb:Eg es=true:=all_true hI1;rw[heb,qu];simp only[go_sem,aa,reduceCtorEq,f6,f7,ae,az6]
     refine dq es.length (fun i s'=>s'.tmp 0= .d (.dt 1 (ls.map fun l=>[se l]))∧s'.tmp 6= .d (.dt 4 (es.map Bk))∧s'.tmp 9= .d (.int .i64 i)∧∀i',i'<i→(Sz es i'==1)=true) ?_ ?_
     ·simp only[go_sem,aa,reduceCtorEq,f0,f6]
      simp
     ·rintro i s2 hi2 ⟨f0,f6,f9,hI2⟩
      by_cases aer:(i:Int)<es.length
      ·have aod:i<es.length:=by omega
       have wi:=br ((i:Int)+1) (by omega) (by omega)
       have hlf:=avk A es i aod (by omega) (fun e he=>by obtain⟨z1,z2⟩:=hsm e he;exact⟨z1.1,z1.2,z2.1,z2.2⟩)
       simp only[Oy]at hlf;simp only[go_sem,aa,reduceCtorEq,f6,f9,ae,aer];refine gf hlf ?_;by_cases c1:Sz es i=1
       ·have c1':(Sz es i !=1)=false:=by simp[c1]
        simp only[go_sem,aa,reduceCtorEq,f0,f6,f9,c1',wi,aod]
        exact⟨by simp,og hI2 (by simp[c1])⟩
       ·have c1':(Sz es i !=1)=true:=by simp[c1]
        have:Tm es=false:=all_false aod (by simp[c1])
        simp only[go_sem,aa,reduceCtorEq,c1',this,cz]
      ·have:i=es.length:=by omega
       subst this;have hlb:Tm es=true:=all_true hI2;simp only[go_sem,aa,reduceCtorEq,f0,f6,f9,ae,aer];refine gf htu ?_;simp only[go_sem,aa,hlb]
end
structure Ft where
 k:Int
 vs:List Vl
 ls:List (List Sp)
structure Nd where
 n:ByteArray
 f:Ft
 ins:List ByteArray
structure Tr where
 ps:List Pm
 ns:List Nd
def cFt(f:Ft):List D:=[.int .i64 f.k,ua f.vs,jv f.ls]
def xe(n:Nd):List D:=[.str n.n,.int .i64 n.f.k,ua n.f.vs,jv n.f.ls,ma n.ins]
def jj(l:List Nd):D:= .dt 5 (l.map xe)
def sf(t:Tr):List D:=[ix t.ps,jj t.ns]
def v0:Vl:=⟨⟨#[]⟩,0,0⟩
def a4m(vs:List Vl):Bool:=(cq vs.length).all fun i=>Iq (vs.getD i v0)
def a0z(k:Int):Bool:=k==1||(k==2||k==3)
def u9(pr:List (List Sp)→Bool)(f:Ft):Bool:=
 decide (0≤f.k∧f.k<14)&&(((f.vs.length:Int)==G9 f.k.toNat)&&(a4m f.vs&&(if a0z f.k then pr f.ls else(f.ls.length:Int)==0)))
theorem anz{k:Nat}(h:k<14):((ab1 k).toList==(⟨#[]⟩:ByteArray).toList)=false:=by
 match k,h with
 |0,_|1,_|2,_|3,_|4,_|5,_|6,_|7,_|8,_|9,_|10,_|11,_|12,_|13,_=>decide+kernel
 |n+14,h=>omega
theorem S6{l:List Vl}{k:Nat}(h:k<l.length):(l.map Cn)[k]? =some [.str (l.getD k v0).n,.int .i64 (l.getD k v0).t,.int .i64 (l.getD k v0).a]:=by
 simp[h,Cn,bn]
section
variable{P:Program}(A:Pr P)
theorem a4y(f:Ft)(hv:f.vs.length≤2^30)(h1:f.ls.length≤2^30)(h2:∀l∈f.ls,l.length≤2^30):fp P A.ud [.agg (cFt f)] (.bool (u9 oh f)):=by
 refine cy A.mo A.a3q (by simp) ?_
 show jd P (N8 A.ze A.By A.x8 A.D3) (kf _ _) _;simp only[N8,cFt,ua,jv,go_sem,aa,ab,ag];refine ee (adp A _) ?_;by_cases hk:0≤f.k∧f.k<14
 ·have hkn:f.k.toNat<14:=by omega
  have hkc:((f.k.toNat:Nat):Int)=f.k:=by omega
  have hc:=amf A hkn;rw[hkc]at hc;rw[if_pos hk];simp only[go_sem,aa,ab,ag,anz hkn,ae];refine ee hc ?_;by_cases c1:(f.vs.length:Int)=G9 f.k.toNat
  ·have c1':((f.vs.length:Int) !=G9 f.k.toNat)=false:=by simp[c1]
   simp only[go_sem,aa,reduceCtorEq,c1']
   refine dq f.vs.length (fun i s'=>s'.tmp 1= .dv 1 (s'.ver 1) 0∧s'.bm 1=some (.loc [.d (.int .i64 f.k),.d (.dt 3 (f.vs.map Cn)),.d (.dt 1 (f.ls.map fun l=>[se l]))])∧s'.tmp 3= .d (.int .i64 i)∧∀i',i'<i→Iq (f.vs.getD i' v0)=true) ?_ ?_
   ·simp only[go_sem,aa]
    simp
   ·rintro i s' hi ⟨f1,b1,f3,hI⟩
    by_cases iy:(i:Int)<f.vs.length
    ·have cj:i<f.vs.length:=by omega
     have wi:=br ((i:Int)+1) (by omega) (by omega)
     simp only[go_sem,aa,ab,ag,reduceCtorEq,f1,b1,f3,ae,iy,S6 cj,toNat_cast,aj];refine ee (a6w A (f.vs.getD i v0)) ?_;cases c2:Iq (f.vs.getD i v0)
     ·have:u9 oh f=false:=by unfold u9;rw[show a4m f.vs=false from all_false cj c2];simp only[cz,o9]
      simp only[go_sem,aa,this]
     ·simp only[go_sem,aa,reduceCtorEq,f1,b1,f3,wi,cj]
      exact⟨by simp,og hI c2⟩
    ·have:i=f.vs.length:=by omega
     subst this;have hvb:a4m f.vs=true:=all_true hI
     have hfb:u9 oh f=if a0z f.k then oh f.ls else(f.ls.length:Int)==0:=by
      unfold u9
      have c1b:((f.vs.length:Int)==G9 f.k.toNat)=true:=by simp[c1]
      rw[decide_eq_true hk,hvb,c1b];rfl
     rw[hfb];have hr:=ais A f.ls h1 h2;simp only[jv]at hr;unfold a0z;simp only[go_sem,aa,ab,ag,reduceCtorEq,f1,b1,f3,ae,iy];cases q1:(f.k==1)
     ·cases q2:(f.k==2)
      ·cases q3:(f.k==3)
       ·simp only[go_sem,aa,ab,ag,reduceCtorEq,f1,b1,ae,q2,q3,Bool.or_self]
       ·simp only[go_sem,aa,ab,ag,reduceCtorEq,f1,b1,q2,q3,Mz]
        refine ee hr ?_;simp only[go_sem,aa]
      ·simp only[go_sem,aa,ab,ag,reduceCtorEq,f1,b1,q2,Mz,Jh]
       refine ee hr ?_;simp only[go_sem,aa]
     ·simp only[go_sem,aa,ab,f1,b1,Jh]
      refine ee hr ?_;simp only[go_sem,aa]
  ·have c1':((f.vs.length:Int) !=G9 f.k.toNat)=true:=by simp[c1]
   have c1b:((f.vs.length:Int)==G9 f.k.toNat)=false:=by simp[c1]
   have:u9 oh f=false:=by unfold u9;rw[c1b];simp only[cz,o9]
   simp only[go_sem,aa,reduceCtorEq,c1',this]
 ·have:u9 oh f=false:=by unfold u9;rw[decide_eq_false hk];rfl
  rw[if_neg hk];simp only[go_sem,aa,beq_self_eq_true,this]
end
def Mj(v:Vl)(x:Int×Bool)(p:Pm):Int×Bool:=if jh p.n v.n then(v.t*p.v+v.a,true)else x
def nq(v:Vl)(l:List Pm):Int×Bool:=l.foldl (Mj v) (v.a,isE v.n)
def ur(pr:List (List Sp)→Bool)(f:Ft)(l:List Pm):List Int×Int:=
 if u9 pr f=false then([],220)else if Aa l=false then([],1)
 else if f.vs.all (fun v=>(nq v l).2)then(f.vs.map fun v=>(nq v l).1,0)else([],4)
def Bj(n:Int):List D:=[.int .i64 n]
def a5u(x:List Int×Int):D:= .yi [.dt 1 (x.1.map Bj),.int .i64 x.2]
theorem awb{x y:Int}(hx: -1000000≤x∧x≤1000000)(hy: -1000000≤y∧y≤1000000): -1000000000000≤x*y∧x*y≤1000000000000:=by
 have h1:x.natAbs≤1000000:=by omega
 have h2:y.natAbs≤1000000:=by omega
 have:=aFd h1 h2;rw[←Int.natAbs_mul]at this;omega
theorem a7h{n:Int}(h:Nu n=true): -1000000≤n∧n≤1000000:=by
 unfold Nu at h;simpa using h
theorem a9h{v:Vl}(h:Iq v=true):(-1000000≤v.t∧v.t≤1000000)∧(-1000000≤v.a∧v.a≤1000000):=by
 unfold Iq at h;simp only[cd]at h;exact⟨a7h h.1,a7h h.2.1⟩
theorem a1q{pr:List (List Sp)→Bool}{f:Ft}(h:u9 pr f=true):∀i,i<f.vs.length→Iq (f.vs.getD i v0)=true:=by
 unfold u9 at h;simp only[cd]at h
 exact fun i hi=>ck.1 h.2.2.1 i (du.2 hi)
theorem Uu{l:List Pm}(h:Aa l=true):l.length≤20∧∀i (hi:i<l.length),Nu (l[i]).v=true:=by
 unfold Aa at h;simp only[cd,decide_eq_true_eq]at h
 refine⟨h.1,fun i hi=>?_⟩
 have:=ck.1 h.2 i (du.2 hi);unfold a7e at this;simp only[ao hi,cd]at this;exact this.2.1
theorem a5q{pr:List (List Sp)→Bool}{f:Ft}(h:u9 pr f=true):f.vs.length≤6:=by
 unfold u9 at h;simp only[cd,decide_eq_true_eq,beq_iff_eq]at h;obtain⟨⟨h0,h1⟩,h2,_⟩:=h
 have:f.k.toNat<14:=by omega
 have hc:G9 f.k.toNat≤6:=by
  generalize f.k.toNat=k at this
  match k,this with
  |0,_|1,_|2,_|3,_|4,_|5,_|6,_|7,_|8,_|9,_|10,_|11,_|12,_|13,_=>decide
  |n+14,h=>omega
 omega
theorem aaq{v:Vl}{l:List Pm}{k:Nat}(h:k<l.length):nq v (l.take (k+1))=Mj v (nq v (l.take k)) l[k]:=by
 unfold nq;rw[ey,pw];simp[h]
theorem a9k{sz:Nat}{x:D}:∀G v,fh G (.yi [.bd,x]) v→fh G (.yi [.dt sz [],x]) v:=by
 intro G v h
 cases h with
 | @yi _ vs hl hr=>
  refine .yi hl fun i y u hy hu=>?_
  match i with
  |0=>
   simp only[ff,ah]at hy;subst hy;exact Iy G u (hr 0 .bd u rfl hu)
  |i+1=>exact hr (i+1) y u hy hu
theorem Vs{l:List Pm}{k:Nat}(h:k<l.length):(l.map pn)[k]? =some [.str l[k].n,.int .i64 l[k].v]:=by simp[h,pn]
section
variable{P:Program}(A:Pr P)
theorem a9z(f:Ft)(l:List Pm)(hv:f.vs.length≤2^30)(h1:f.ls.length≤2^30)(h2:∀l∈f.ls,l.length≤2^30):fp P A.y0 [.agg (cFt f),ix l] (a5u (ur oh f l)):=by
 have main:fp P A.y0 [.agg (cFt f),ix l] (.yi [if(ur oh f l).1.map Bj=[]then .bd else .dt 1 ((ur oh f l).1.map Bj),.int .i64 (ur oh f l).2]):=by
  refine cy A.mo A.Z3 (by simp) ?_
  show jd P (K4 A.ud A.ni) (kf _ _) _;have hr:=a4y A f hv h1 h2;simp only[cFt,ua,jv]at hr;simp only[K4,cFt,ua,jv,ix,go_sem,aa,ab];refine ee hr ?_;cases c1:u9 oh f
  ·have:ur oh f l=([],220):=by unfold ur;rw[if_pos c1]
   rw[this];simp only[go_sem,aa]
  ·simp only[go_sem,aa]
   refine ee (Su A l) ?_;cases c2:Aa l
   ·have:ur oh f l=([],1):=by unfold ur;rw[if_neg (by rw[c1];simp),if_pos c2]
    rw[this];simp only[go_sem,aa]
   ·have hN:ur oh f l=if f.vs.all (fun v=>(nq v l).2)then(f.vs.map fun v=>(nq v l).1,0)else([],4):=by
     unfold ur
     rw[if_neg (by rw[c1];simp),if_neg (by rw[c2];simp)]
    rw[hN];have hfl:=a5q c1;obtain⟨hpl,hpv⟩:=Uu c2;simp only[go_sem,aa]
    refine dq f.vs.length (fun i s'=>s'.base=0∧s'.tmp 1= .d (.dt 2 (l.map pn))∧s'.tmp 2= .dv 2 (s'.ver 2) 0∧s'.bm 2=some (.loc [.d (.int .i64 f.k),.d (.dt 3 (f.vs.map Cn)),.d (.dt 1 (f.ls.map fun l=>[se l]))])∧s'.tmp 7= .d (.int .i64 i)∧
     uc s' 67 1 (((f.vs.take i).map fun v=>(nq v l).1).map Bj) (s'.tmp 6)∧∀i',i'<i→(nq (f.vs.getD i' v0) l).2=true) ?_ ?_
    ·simp only[go_sem,aa]
     refine⟨uc.nil,by simp⟩
    ·rintro i s' hi ⟨eb,f1,f2,b2,f7,acc,hI⟩
     by_cases iy:(i:Int)<f.vs.length
     ·have cj:i<f.vs.length:=by omega
      have wi:=br ((i:Int)+1) (by omega) (by omega)
      have hvi:=a1q c1 i cj
      have hgi:f.vs.getD i v0=f.vs[i]:=by simp[bn,cj]
      have hg:=S6 cj;obtain⟨⟨t1,t2⟩,a1,a2⟩:=a9h hvi;simp only[go_sem,aa,ab,ag,reduceCtorEq,eb,f2,b2,f7,ae,iy,hg,toNat_cast,aj]
      generalize hvv:f.vs.getD i v0=v at*
      refine dq l.length (fun k s'=>s'.base=0∧s'.tmp 1= .d (.dt 2 (l.map pn))∧s'.tmp 2= .dv 2 (s'.ver 2) 0∧s'.bm 2=some (.loc [.d (.int .i64 f.k),.d (.dt 3 (f.vs.map Cn)),.d (.dt 1 (f.ls.map fun l=>[se l]))])∧s'.tmp 7= .d (.int .i64 i)∧
       uc s' 67 1 (((f.vs.take i).map fun v=>(nq v l).1).map Bj) (s'.tmp 6)∧s'.tmp 8= .dv 8 (s'.ver 8) 0∧s'.bm 8=some (.loc [.d (.str v.n),.d (.int .i64 v.t),.d (.int .i64 v.a)])∧s'.tmp 11= .d (.int .i64 k)∧
       s'.tmp 9= .d (.int .i64 (nq v (l.take k)).1)∧s'.tmp 10= .d (.bool (nq v (l.take k)).2)) ?_ ?_
      ·simp only[go_sem,aa,f1,f2,b2,f7]
       refine⟨acc.mono (by simp[al]) (by simp[al]),by simp[nq],by simp[nq,isE]⟩
      ·clear f1 f2 b2 f7 eb acc
       rintro k s2 hk ⟨eb,f1,f2,b2,f7,acc,f8,b8,f11,f9,f10⟩;by_cases Ch:(k:Int)<l.length
       ·have mq:k<l.length:=by omega
        have wk:=br ((k:Int)+1) (by omega) (by omega)
        have hp:=a7h (hpv k mq);have m1:=awb ⟨t1,t2⟩ hp
        have w1:=br (v.t*l[k].v) (by omega) (by omega)
        have w2:=br (v.t*l[k].v+v.a) (by omega) (by omega)
        have tc:=aaq (v:=v) mq;simp only[go_sem,aa,ab,ag,reduceCtorEq,eb,f1,f8,b8,f11,ae,Ch,Vs mq,toNat_cast,aj];cases c3:(l[k].n.toList==v.n.toList)
        ·have e:Mj v (nq v (l.take k)) l[k]=nq v (l.take k):=by unfold Mj jh;rw[c3];rfl
         simp only[go_sem,aa,reduceCtorEq,f1,f2,b2,f7,f8,b8,f9,f10,f11,wk,mq,tc,e]
         refine⟨acc.mono rfl rfl,by simp⟩
        ·have e:Mj v (nq v (l.take k)) l[k]=(v.t*l[k].v+v.a,true):=by unfold Mj jh;rw[c3];rfl
         simp only[go_sem,aa,ab,ag,reduceCtorEq,f1,f2,b2,f7,f8,b8,f9,f10,f11,wk,mq,tc,e,Vs mq,toNat_cast,aj,w1,w2]
         refine⟨acc.mono rfl rfl,by simp⟩
       ·have:k=l.length:=by omega
        subst this;rw[eo]at f9 f10;simp only[go_sem,aa,reduceCtorEq,eb,f1,f2,b2,f7,f10,f11,ae,Ch];cases c4:(nq v l).2
        ·have zx:f.vs.all (fun v=>(nq v l).2)=false:=by
          rw[Zj]
          exact⟨f.vs[i],bz cj,by rw[←hgi,c4];simp⟩
         simp only[go_sem,aa,zx]
        ·simp only[go_sem,aa,ca,f9]
         refine r8 (els:=((f.vs.take i).map fun v=>(nq v l).1).map Bj) (ys:=[Bj (nq v l).1]) (osz:=some 1) ?_ ?_ rfl (by simp[Bj,D.one]) ?_ (by simp) ?_
         ·simp only[go_sem,aa]
          exact acc.mono (by simp[al]) (by simp[al])
         ·simp only[go_sem,aa,ov]
          rfl
         ·simp only[ae,bq,dh,dd]
          omega
         ·intro s3 g
          have ha2:=g.acc (by simp)
          rw[g.tmp,bh]at ha2;simp only[eh]at ha2
          have gv:=g.ver 2 (by simp)
          have gb:s3.bm 2=s2.bm 2:=by rw[g.bm];simp[al]
          simp only[go_sem,aa,reduceCtorEq,g.tmp,f1,f2,f7,wi,g.base,gb,gv,b2,cj]
          refine⟨by simp,?_,og hI (by rw[hvv];exact c4)⟩
          have e1:(((f.vs.take (i+1)).map fun v=>(nq v l).1).map Bj)=((f.vs.take i).map fun v=>(nq v l).1).map Bj++[Bj (nq v l).1]:=by
           rw[ey,fb,fb];simp[cj,←hgi]
          rw[e1];exact ha2.mono rfl rfl
     ·have:i=f.vs.length:=by omega
      subst this;rw[eo]at acc
      have zx:f.vs.all (fun v=>(nq v l).2)=true:=by
       rw[ck];intro v hv;obtain⟨i,hi,rfl⟩:=fj.1 hv;have:=hI i hi;simpa[bn,hi]using this
      rw[zx];simp only[go_sem,aa,ab,ag,reduceCtorEq,eb,f2,b2,f7,ae,iy];rcases acc with ⟨a1,a2⟩|⟨a1,a2,a3⟩
      ·simp only[go_sem,a1,a2]
      ·rw[if_neg a1,a2]
       simp only[go_sem,a3,ae]
 generalize ur oh f l=x at main⊢
 refine main.Qe fun G v hv=>?_
 split at hv
 ·rename_i he
  unfold a5u;rw[he];exact a9k G v hv
 ·exact hv
end
theorem uc.aA9{P:Program}{s:PS}{K:PS→Prop}{r:List RI}{d:Option Nat}{id sz f:Nat}{els:List (List D)}{v:V}{y x:D}(acc:uc s id sz els v)(h2:fp P f [.dt sz els,y] x)(hx:x.flat=true)(h4:jn P r (s.put d (.d x)) K):
  Dd P f [v,.d y] [] false d s (xd P r K):=by
 rcases acc with ⟨rfl,rfl⟩|⟨h1,rfl,h3⟩
 ·exact⟨[.bd,y],x,rfl,h2.w0,.inl hx,h4⟩
 ·have he:PS.els s id (s.ver id)=some (sz,els):=by unfold PS.els;rw[if_pos rfl,h3]
  exact⟨[.dt sz els,y],x,by simp[Gt,snap,he],h2,.inl hx,h4⟩
theorem uc.aA8{P:Program}{s:PS}{K:PS→Prop}{r:List RI}{d:Option Nat}{id sz f:Nat}{els:List (List D)}{v:V}{y x:D}(acc:uc s id sz els v)(h2:fp P f [y,.dt sz els] x)(hx:x.flat=true)(h4:jn P r (s.put d (.d x)) K):
  Dd P f [.d y,v] [] false d s (xd P r K):=by
 rcases acc with ⟨rfl,rfl⟩|⟨h1,rfl,h3⟩
 ·exact⟨[y,.bd],x,rfl,h2.w1,.inl hx,h4⟩
 ·have he:PS.els s id (s.ver id)=some (sz,els):=by unfold PS.els;rw[if_pos rfl,h3]
  exact⟨[y,.dt sz els],x,by simp[Gt,snap,he],h2,.inl hx,h4⟩
theorem uc.put{s:PS}{id sz:Nat}{els:List (List D)}{v w:V}{d:Option Nat}(h:uc s id sz els v):uc (s.put d w) id sz els v:=h.mono (by cases d<;>rfl) (by cases d<;>rfl)
def Lh(n:Nd)(out:List ByteArray):Bool:=(cq n.ins.length).all fun i=>hasB out (n.ins.getD i ⟨#[]⟩)
def n0:Nd:=⟨⟨#[]⟩,⟨0,[],[]⟩,[]⟩
def mg(out:List ByteArray)(b:ByteArray)(n:Nd):ByteArray:=if !hasB out n.n&&(Lh n out&&(isE b||strLt n.n b))then n.n else b
def M3(ns:List Nd)(out:List ByteArray):ByteArray:=ns.foldl (mg out) ⟨#[]⟩
def Tg(ns:List Nd):Nat→List ByteArray→List ByteArray
 |0,out=>out
 |k+1,out=>if isE (M3 ns out)then out else Tg ns k (out++[M3 ns out])
def Fu(ns:List Nd):List ByteArray:=Tg ns (ns.length+1) []
def Pw(ns:List Nd)(out:List ByteArray):Nat:=(ns.filter fun n=> !hasB out n.n).length
theorem Fp{l:List ByteArray}{k:Nat}(h:k<l.length):(l.map sv)[k]? =some [.str (l.getD k ⟨#[]⟩)]:=by simp[h,sv,bn]
theorem Fw{l:List Nd}{k:Nat}(h:k<l.length):(l.map xe)[k]? =some [.str (l.getD k n0).n,.int .i64 (l.getD k n0).f.k,ua (l.getD k n0).f.vs,jv (l.getD k n0).f.ls,ma (l.getD k n0).ins]:=by
 simp[h,xe,bn]
theorem ajy{l:List ByteArray}{s:ByteArray}{k:Nat}(h:k<l.length):hasB (l.take (k+1)) s=(hasB (l.take k) s||jh (l.getD k ⟨#[]⟩) s):=by
 unfold hasB;rw[ey,List.any_append];simp[h,bn]
theorem Tc(s:ByteArray):jh s s=true:=by simp[jh]
theorem Mm(l:List ByteArray)(a s:ByteArray):hasB (l++[a]) s=(hasB l s||jh a s):=by simp[hasB]
theorem apq(ns:List Nd)(out:List ByteArray):∀b,ns.foldl (mg out) b=b∨∃n∈ns,ns.foldl (mg out) b=n.n∧hasB out n.n=false:=by
 induction ns with
 |nil=>intro b;exact .inl rfl
 |cons n r ih=>
  intro b;simp only[ya];rcases ih (mg out b n)with h|⟨m,hm,h1,h2⟩
  ·by_cases hc:(!hasB out n.n&&(Lh n out&&(isE b||strLt n.n b)))=true
   ·have e:mg out b n=n.n:=by unfold mg;rw[if_pos hc]
    refine .inr ⟨n,by simp,by rw[h,e],?_⟩
    simp only[cd]at hc;simpa using hc.1
   ·have e:mg out b n=b:=by unfold mg;rw[if_neg hc]
    exact .inl (by rw[h,e])
  ·exact .inr ⟨m,by simp[hm],h1,h2⟩
theorem atj{α:Type}{p q:α→Bool}(h:∀m,p m=true→q m=true):∀l:List α,(l.filter p).length≤(l.filter q).length:=by
 intro l
 induction l with
 |nil=>simp
 |cons m r ih=>
  simp only[a69];cases hp:p m
  ·cases hq:q m<;>simp<;>omega
  ·rw[h m hp];simp;omega
theorem ahc{α:Type}{p q:α→Bool}(h:∀m,p m=true→q m=true){n:α}(hp:p n=false)(hq:q n=true):∀l:List α,n∈l→(l.filter p).length<(l.filter q).length:=by
 intro l hl
 induction l with
 |nil=>simp at hl
 |cons m r ih=>
  rcases dn.1 hl with rfl|hl
  ·have:=atj h r
   simp only[a69,hp,hq];simp;omega
  ·have:=ih hl
   simp only[a69];cases hp':p m
   ·cases hq':q m<;>simp<;>omega
   ·rw[h m hp'];simp;omega
theorem art{ns:List Nd}{out:List ByteArray}(h:isE (M3 ns out)=false):Pw ns (out++[M3 ns out])<Pw ns out:=by
 rcases apq ns out ⟨#[]⟩with h0|⟨n,hn,h1,h2⟩
 ·have:M3 ns out=⟨#[]⟩:=h0
  rw[this]at h;simp[isE]at h
 ·have hb:M3 ns out=n.n:=h1
  rw[hb];unfold Pw
  refine ahc (n:=n) (fun m hm=>?_) ?_ ?_ ns hn
  ·rw[Mm]at hm
   cases hx:hasB out m.n
   ·rfl
   ·rw[hx]at hm;simp at hm
  ·rw[Mm,Tc];simp
  ·rw[h2];rfl
section
variable{P:Program}(A:Pr P)
theorem aua(l:List ByteArray)(s:ByteArray)(hl:l.length≤2^40):fp P A.yy [ma l,.str s] (.bool (hasB l s)):=by
 refine cy A.mo A.abi (by simp) ?_
 show jd P Ql (kf _ _) _;simp only[Ql,ma,go_sem]
 refine dq l.length (fun k s'=>s'.tmp 0= .d (.dt 1 (l.map sv))∧s'.tmp 1= .d (.str s)∧s'.tmp 5= .d (.int .i64 k)∧hasB (l.take k) s=false) ?_ ?_
 ·simp only[go_sem,aa,reduceCtorEq]
  simp[hasB]
 ·rintro k s' hk ⟨f0,f1,f5,ha⟩
  by_cases iy:(k:Int)<l.length
  ·have cj:k<l.length:=by omega
   have wk:=br ((k:Int)+1) (by omega) (by omega)
   simp only[go_sem,aa,reduceCtorEq,f0,f1,f5,ae,iy,Fp cj,toNat_cast,aj];cases c:((l.getD k ⟨#[]⟩).toList==s.toList)
   ·simp only[go_sem,aa,reduceCtorEq,f0,f1,f5,wk,cj]
    refine⟨by simp,?_⟩
    rw[ajy cj,ha];exact c
   ·have:hasB l s=true:=by
     unfold hasB;rw[Dh];refine⟨l[k],bz cj,?_⟩
     have e:l.getD k ⟨#[]⟩=l[k]:=by simp[bn,cj]
     rw[e]at c;exact c
    simp only[go_sem,aa,this]
  ·have:k=l.length:=by omega
   subst this;rw[eo]at ha;simp only[go_sem,aa,reduceCtorEq,f0,f5,ae,iy,ha]
theorem aqs(n:Nd)(out:List ByteArray)(hl:n.ins.length≤2^40)(ho:out.length≤2^40):fp P A.Cy [.agg (xe n),ma out] (.bool (Lh n out)):=by
 refine cy A.mo A.a3l (by simp) ?_
 show jd P (N3 A.yy) (kf _ _) _
 have hh:=fun s=>aua A out s ho
 simp only[ma]at hh;simp only[N3,xe,ma,ua,jv,go_sem,ab]
 refine dq n.ins.length (fun k s'=>s'.tmp 1= .d (.dt 1 (out.map sv))∧s'.tmp 2= .dv 2 (s'.ver 2) 0∧s'.bm 2=some (.loc [.d (.str n.n),.d (.int .i64 n.f.k),.d (.dt 3 (n.f.vs.map Cn)),.d (.dt 1 (n.f.ls.map fun l=>[se l])),.d (.dt 1 (n.ins.map sv))])∧s'.tmp 5= .d (.int .i64 k)∧
  ∀i,i<k→hasB out (n.ins.getD i ⟨#[]⟩)=true) ?_ ?_
 ·simp only[go_sem,aa]
  simp
 ·rintro k s' hk ⟨f1,f2,b2,f5,hI⟩
  by_cases iy:(k:Int)<n.ins.length
  ·have cj:k<n.ins.length:=by omega
   have wk:=br ((k:Int)+1) (by omega) (by omega)
   simp only[go_sem,aa,ab,reduceCtorEq,f1,f2,b2,f5,ae,iy,Fp cj,toNat_cast,aj];refine gf (hh _) ?_;cases c:hasB out (n.ins.getD k ⟨#[]⟩)
   ·have:Lh n out=false:=all_false cj c
    simp only[go_sem,aa,this]
   ·simp only[go_sem,aa,reduceCtorEq,f1,f2,b2,f5,wk,cj]
    exact⟨by simp,og hI c⟩
  ·have:k=n.ins.length:=by omega
   subst this;have:Lh n out=true:=all_true hI;simp only[go_sem,aa,ab,reduceCtorEq,f2,b2,f5,ae,iy,this]
theorem ar3(t:Tr)(hn:t.ns.length≤1000)(hi:∀n∈t.ns,n.ins.length≤2^40):fp P A.Ba [.agg (sf t)] (ma (Fu t.ns)):=by
 have main:fp P A.Ba [.agg (sf t)] (if(Fu t.ns).map sv=[]then .bd else .dt 1 ((Fu t.ns).map sv)):=by
  refine cy A.mo A.a3n (by simp) ?_
  show jd P (N5 A.yy A.Cy) (kf _ _) _;simp only[N5,sf,ix,jj,go_sem,ab]
  have h0:Pw t.ns []≤t.ns.length:=by unfold Pw;exact Im _ _
  refine dq t.ns.length (fun i s'=>∃out:List ByteArray,s'.base=0∧s'.tmp 1= .dv 1 (s'.ver 1) 0∧s'.bm 1=some (.loc [.d (.dt 2 (t.ps.map pn)),.d (.dt 5 (t.ns.map xe))])∧uc s' 47 1 (out.map sv) (s'.tmp 3)∧
   Pw t.ns out+i≤t.ns.length∧out.length=i∧Tg t.ns (t.ns.length+1-i) out=Fu t.ns) ?_ ?_
  ·simp only[go_sem,aa]
   refine⟨[],uc.nil,h0,rfl,rfl⟩
  ·rintro i s' Dx ⟨out,eb,f1,b1,acc,ho,hol,hor⟩
   simp only[go_sem]
   refine dq t.ns.length (fun k s'=>s'.base=0∧s'.tmp 1= .dv 1 (s'.ver 1) 0∧s'.bm 1=some (.loc [.d (.dt 2 (t.ps.map pn)),.d (.dt 5 (t.ns.map xe))])∧uc s' 47 1 (out.map sv) (s'.tmp 3)∧
    s'.tmp 5= .d (.int .i64 k)∧s'.tmp 4= .d (.str ((t.ns.take k).foldl (mg out) ⟨#[]⟩))) ?_ ?_
   ·simp only[go_sem,aa,eb,f1,b1]
    exact⟨acc.mono rfl rfl,by simp⟩
   ·clear eb f1 b1 acc
    rintro k s2 hk ⟨eb,f1,b1,acc,f5,f4⟩;by_cases iy:(k:Int)<t.ns.length
    ·have cj:k<t.ns.length:=by omega
     have wk:=br ((k:Int)+1) (by omega) (by omega)
     have hg:=Fw cj
     have hgn:t.ns.getD k n0=t.ns[k]:=by simp[bn,cj]
     have hni:=hi _ (bz cj)
     have tc:(t.ns.take (k+1)).foldl (mg out) ⟨#[]⟩=mg out ((t.ns.take k).foldl (mg out) ⟨#[]⟩) t.ns[k]:=by
      rw[ey,pw];simp[cj]
     rw[hgn]at hg
     have hh:=aua A out t.ns[k].n (by omega)
     have hr:=aqs A t.ns[k] out hni (by omega)
     generalize(t.ns.take k).foldl (mg out) ⟨#[]⟩=C7 at*
     generalize t.ns[k]=n at*
     simp only[ma,xe,ua,jv]at hh hr hg;simp only[go_sem,aa,ab,ag,reduceCtorEq,eb,f1,b1,f5,ae,iy,hg,toNat_cast,aj]
     refine(acc.mono (by simp[al]) (by simp[al])).aA9 hh rfl ?_
     cases c1:hasB out n.n
     ·simp only[go_sem,aa,ab]
      refine(acc.mono (by simp[al]) (by simp[al])).aA8 hr rfl ?_
      cases c2:Lh n out
      ·have e:mg out C7 n=C7:=by unfold mg;rw[c1,c2];rfl
       simp only[go_sem,aa,reduceCtorEq,f1,b1,f4,f5,wk,cj,tc,e]
       exact⟨acc.mono (by simp[al]) (by simp[al]),by simp⟩
      ·cases c3:isE C7
       ·have c3':=c3
        unfold isE at c3';cases c4:strLt n.n C7
        ·have c4':=c4
         unfold strLt at c4'
         have e:mg out C7 n=C7:=by unfold mg;rw[c1,c2,c3,c4];rfl
         simp only[go_sem,aa,ab,ag,reduceCtorEq,f1,b1,f4,f5,c3',c4',wk,cj,tc,e]
         exact⟨acc.mono (by simp[al]) (by simp[al]),by simp⟩
        ·have c4':=c4
         unfold strLt at c4'
         have e:mg out C7 n=n.n:=by unfold mg;rw[c1,c2,c3,c4];rfl
         simp only[go_sem,aa,ab,ag,reduceCtorEq,f1,b1,f4,f5,c3',c4',wk,cj,tc,e]
         exact⟨acc.mono (by simp[al]) (by simp[al]),by simp⟩
       ·have c3':=c3
        unfold isE at c3'
        have e:mg out C7 n=n.n:=by unfold mg;rw[c1,c2,c3];rfl
        simp only[go_sem,aa,ab,ag,reduceCtorEq,f1,b1,f4,f5,c3',wk,cj,tc,e]
        exact⟨acc.mono (by simp[al]) (by simp[al]),by simp⟩
     ·have e:mg out C7 n=C7:=by unfold mg;rw[c1];rfl
      simp only[go_sem,aa,reduceCtorEq,f1,b1,f4,f5,wk,cj,tc,e]
      exact⟨acc.mono (by simp[al]) (by simp[al]),by simp⟩
    ·have:k=t.ns.length:=by omega
     subst this;rw[eo]at f4
     have hfu:t.ns.length+1-i=(t.ns.length-i)+1:=by omega
     rw[hfu]at hor;have hbe:t.ns.foldl (mg out) ⟨#[]⟩=M3 t.ns out:=rfl;rw[hbe]at f4;simp only[go_sem,aa,ab,reduceCtorEq,eb,f1,b1,f4,f5,ae,iy];cases c5:isE (M3 t.ns out)
     ·have c5':=c5
      unfold isE at c5';have hop:=art c5;rw[Tg,c5]at hor;simp only[go_sem,aa,ca,f4,c5']
      refine r8 (els:=out.map sv) (ys:=[sv (M3 t.ns out)]) (osz:=some 1) ?_ ?_ rfl (by simp[sv,D.one]) ?_ (by simp) ?_
      ·simp only[go_sem,aa]
       exact acc.mono (by simp[al]) (by simp[al])
      ·simp only[go_sem,aa,ov]
       rfl
      ·simp only[ae,bq,dh]
       omega
      ·intro s3 g
       have ha2:=g.acc (by simp)
       rw[g.tmp,bh]at ha2;simp only[eh]at ha2
       have gv:=g.ver 1 (by simp)
       have gb:s3.bm 1=s2.bm 1:=by rw[g.bm];simp[al]
       simp only[go_sem,aa,g.tmp,f1,g.base,gb,gv,b1]
       refine⟨by omega,out++[M3 t.ns out],?_,by omega,by simp[hol],?_⟩
       ·rw[fb]
        exact ha2.mono rfl rfl
       ·have e2:t.ns.length+1-(i+1)=t.ns.length-i:=by omega
        rw[e2];exact hor
     ·have c5':=c5
      unfold isE at c5';rw[Tg,c5]at hor;have hor:out=Fu t.ns:=hor;subst hor;simp only[go_sem,aa,c5'];rcases acc with ⟨a1,a2⟩|⟨a1,a2,a3⟩
      ·simp only[go_sem,a1,a2]
      ·rw[if_neg a1,a2]
       simp only[go_sem,a3,ae]
 refine main.Qe fun G v hv=>?_
 split at hv
 ·rename_i he
  unfold ma;rw[he];exact Iy G v hv
 ·exact hv
end
def Sb(ns:List Nd)(s:ByteArray):Bool:=ns.any fun n=>jh n.n s
def a15:List Nd→ByteArray→Int→Int
 |[],_,_=> -1
 |n::r,s,i=>if jh n.n s then i else a15 r s (i+1)
theorem ao2(ns:List Nd)(s:ByteArray):∀i:Int,0≤i→(a15 ns s i<0↔Sb ns s=false):=by
 induction ns with
 |nil=>intro i _;simp[a15,Sb]
 |cons n r ih=>
  intro i hi;unfold a15 Sb;cases h:jh n.n s
  ·simp only[ec,if_false,aG0,h,Mz]
   exact ih (i+1) (by omega)
  ·simp[h];omega
theorem ajw{ns:List Nd}{s:ByteArray}{k:Nat}(h:k<ns.length):a15 (ns.drop k) s k=if jh ns[k].n s then(k:Int)else a15 (ns.drop (k+1)) s ((k+1:Nat):Int):=by
 rw[gd h];rfl
def zw(pr:List (List Sp)→Bool)(t:Tr)(i:Nat):Bool:=
 uu (t.ns.getD i n0).n&&(ui (t.ns.map Nd.n) i&&(u9 pr (t.ns.getD i n0).f&&(((t.ns.getD i n0).ins.length:Int)==kIn (t.ns.getD i n0).f.k.toNat&&
  (((cq (t.ns.getD i n0).ins.length).all fun k=>Sb t.ns ((t.ns.getD i n0).ins.getD k ⟨#[]⟩))&&(ur pr (t.ns.getD i n0).f t.ps).2==0))))
def Cr(pr:List (List Sp)→Bool)(t:Tr):Bool:=
 Aa t.ps&&(decide (t.ns.length≤20)&&((cq t.ns.length).all (zw pr t)&&((Fu t.ns).length:Int)==t.ns.length))
def Rk(t:Tr):Prop:=t.ns.length≤1000∧∀n∈t.ns,n.ins.length≤2^30∧n.f.vs.length≤2^30∧n.f.ls.length≤2^30∧∀l∈n.f.ls,l.length≤2^30
section
variable{P:Program}(A:Pr P)
theorem ar6(t:Tr)(s:ByteArray)(hl:t.ns.length≤2^40):fp P A.D0 [.agg (sf t),.str s] (.int .i64 (a15 t.ns s 0)):=by
 refine cy A.mo A.a3o (by simp) ?_
 show jd P N6 (kf _ _) _;simp only[N6,sf,ix,jj,go_sem,bc,ab]
 refine dq t.ns.length (fun k s'=>s'.tmp 1= .d (.str s)∧s'.tmp 2= .dv 2 (s'.ver 2) 0∧s'.bm 2=some (.loc [.d (.dt 2 (t.ps.map pn)),.d (.dt 5 (t.ns.map xe))])∧s'.tmp 5= .d (.int .i64 k)∧a15 (t.ns.drop k) s k=a15 t.ns s 0) ?_ ?_
 ·simp only[go_sem,aa,aGs,Yo]
 ·rintro k s' hk ⟨f1,f2,b2,f5,hI⟩
  by_cases iy:(k:Int)<t.ns.length
  ·have cj:k<t.ns.length:=by omega
   have wk:=br ((k:Int)+1) (by omega) (by omega)
   have hg:=Fw cj
   have hgn:t.ns.getD k n0=t.ns[k]:=by simp[bn,cj]
   rw[hgn]at hg;rw[ajw cj]at hI;simp only[go_sem,aa,bc,ab,ag,reduceCtorEq,f1,f2,b2,f5,ae,iy,hg,toNat_cast,aj];cases c:(t.ns[k].n.toList==s.toList)
   ·unfold jh at hI
    rw[c]at hI;simp only[go_sem,aa,bc,reduceCtorEq,f1,f2,b2,f5,wk,cj]
    refine⟨by simp,?_⟩
    simpa using hI
   ·unfold jh at hI
    rw[c]at hI;simp only[if_true]at hI;simp only[go_sem,aa,bc,f5,hI]
  ·have:k=t.ns.length:=by omega
   subst this;rw[Ma]at hI;simp only[a15]at hI;simp only[go_sem,aa,bc,ab,reduceCtorEq,f2,b2,f5,ae,iy,←hI]
theorem air(t:Tr)(hs:Rk t):fp P A.Cz [.agg (sf t)] (.bool (Cr oh t)):=by
 refine cy A.mo A.a3m (by simp) ?_
 show jd P (N4 A.ni A.qh A.ud A.Bx A.D0 A.y0 A.Ba) (kf _ _) _;obtain⟨hs1,hs2⟩:=hs;have hrp:=Su A t.ps;simp only[ix]at hrp;unfold Cr;simp only[N4,sf,ix,jj,go_sem,aa,ab,ag];refine ee hrp ?_;cases c1:Aa t.ps
 ·simp only[go_sem,aa,cz]
 ·by_cases c2:(20:Int)<t.ns.length
  ·have c2':¬t.ns.length≤20:=by omega
   simp only[go_sem,aa,ab,reduceCtorEq,ae,c2,c2',cz]
  ·have c2':t.ns.length≤20:=by omega
   simp only[go_sem,aa,ab,reduceCtorEq,ae,c2,c2']
   refine dq t.ns.length (fun i s'=>s'.base=0∧s'.tmp 1= .dv 1 (s'.ver 1) 0∧s'.bm 1=some (.loc [.d (.dt 2 (t.ps.map pn)),.d (.dt 5 (t.ns.map xe))])∧s'.tmp 3= .d (.int .i64 i)∧∀i',i'<i→zw oh t i'=true) ?_ ?_
   ·simp only[go_sem,aa]
    simp
   ·rintro i s' hi ⟨eb,f1,b1,f3,hI⟩
    by_cases iy:(i:Int)<t.ns.length
    ·have cj:i<t.ns.length:=by omega
     have wi:=br ((i:Int)+1) (by omega) (by omega)
     have hg:=Fw cj
     have hgn:t.ns.getD i n0=t.ns[i]:=by simp[bn,cj]
     obtain⟨q1,q2,q3,q4⟩:=hs2 _ (bz cj);rw[hgn]at hg
     have C4:zw oh t i=(uu t.ns[i].n&&(ui (t.ns.map Nd.n) i&&(u9 oh t.ns[i].f&&((t.ns[i].ins.length:Int)==kIn t.ns[i].f.k.toNat&&(((cq t.ns[i].ins.length).all fun k=>Sb t.ns (t.ns[i].ins.getD k ⟨#[]⟩))&&(ur oh t.ns[i].f t.ps).2==0))))):=by
      unfold zw;rw[hgn]
     have no:zw oh t i=false→((cq t.ns.length).all (zw oh t)&&((Fu t.ns).length:Int)==t.ns.length)=false:=fun h=>by rw[all_false cj h,cz]
     have awh:=a4y A t.ns[i].f q2 q3 q4;have ajx:=a9z A t.ns[i].f t.ps q2 q3 q4;have V9:=ado A t.ns[i].n
     have ah5:∀h:0<i,ui (t.ns.map Nd.n) i=strLt t.ns[i-1].n t.ns[i].n:=fun h=>by
      unfold ui
      have:i-1<t.ns.length:=by omega
      have h0:i≠0:=by omega
      simp[h0,this,cj]
     have hg':∀h:0<i,(t.ns.map xe)[i-1]? =some [.str t.ns[i-1].n,.int .i64 t.ns[i-1].f.k,ua t.ns[i-1].f.vs,jv t.ns[i-1].f.ls,ma t.ns[i-1].ins]:=fun h=>by
      have:i-1<t.ns.length:=by omega
      simp[this,xe]
     generalize hnn:t.ns[i]=n at*
     simp only[ua,jv,ma]at hg hg';simp only[cFt,ua,jv]at awh ajx;simp only[ix,a5u]at ajx;simp only[go_sem,aa,ab,ag,reduceCtorEq,eb,f1,b1,f3,ae,iy,hg,toNat_cast,aj];refine ee V9 ?_
     refine Ur (fun s'=>s'.base=0∧s'.tmp 1= .dv 1 (s'.ver 1) 0∧s'.bm 1=some (.loc [.d (.dt 2 (t.ps.map pn)),.d (.dt 5 (t.ns.map xe))])∧s'.tmp 3= .d (.int .i64 i)∧s'.tmp 4= .dv 4 (s'.ver 4) 0∧
      s'.bm 4=some (.loc [.d (.str n.n),.d (.int .i64 n.f.k),.d (.dt 3 (n.f.vs.map Cn)),.d (.dt 1 (n.f.ls.map fun l=>[se l])),.d (.dt 1 (n.ins.map sv))])∧
      s'.tmp 65= .d (.bool !(uu n.n&&(ui (t.ns.map Nd.n) i&&(u9 oh n.f&&(n.ins.length:Int)==kIn n.f.k.toNat))))) ?_ ?_
     ·cases d1:uu n.n
      ·simp only[go_sem,aa,f1,b1,f3,cz]
      ·by_cases d2:0<i
       ·have d2':(0:Int)<i:=by omega
        have w1:=br ((i:Int)-1) (by omega) (by omega)
        have z:(0:Int)≤(i:Int)-1:=by omega
        rw[ah5 d2];cases d3:strLt t.ns[i-1].n n.n
        ·have d3':=d3
         unfold strLt at d3';simp only[go_sem,aa,ab,ag,reduceCtorEq,f1,b1,f3,d2',w1,Gm d2',hg' d2,z,d3',cz,o9]
        ·have d3':=d3
         unfold strLt at d3';simp only[go_sem,aa,ab,ag,reduceCtorEq,f1,b1,f3,d2',w1,Gm d2',hg' d2,z,d3'];refine ee awh ?_;cases d4:u9 oh n.f
         ·simp only[go_sem,aa,f1,b1,f3,cz]
         ·have hk:0≤n.f.k∧n.f.k<14:=by
           have:=d4;unfold u9 at this;simp only[cd,decide_eq_true_eq]at this;exact this.1
          have hkc:((n.f.k.toNat:Nat):Int)=n.f.k:=by omega
          have hin:=aa0 A (k:=n.f.k.toNat) (by omega)
          rw[hkc]at hin;simp only[go_sem,aa,ab,ag,ae];refine ee hin ?_;simp only[go_sem,aa,reduceCtorEq,f1,b1,f3,bne]
       ·have d2':¬(0:Int)<i:=by omega
        have hr0:ui (t.ns.map Nd.n) i=true:=by unfold ui;simp;omega
        rw[hr0];simp only[go_sem,aa,ab,ag,reduceCtorEq,f3,d2'];refine ee awh ?_;cases d4:u9 oh n.f
        ·simp only[go_sem,aa,f1,b1,f3,cz]
        ·have hk:0≤n.f.k∧n.f.k<14:=by
          have:=d4;unfold u9 at this;simp only[cd,decide_eq_true_eq]at this;exact this.1
         have hkc:((n.f.k.toNat:Nat):Int)=n.f.k:=by omega
         have hin:=aa0 A (k:=n.f.k.toNat) (by omega)
         rw[hkc]at hin;simp only[go_sem,aa,ab,ag,ae];refine ee hin ?_;simp only[go_sem,aa,reduceCtorEq,f1,b1,f3,bne]
     ·clear eb f1 b1 f3
      rintro s3 ⟨eb,f1,b1,f3,f4,b4,f65⟩;cases e1:(uu n.n&&(ui (t.ns.map Nd.n) i&&(u9 oh n.f&&(n.ins.length:Int)==kIn n.f.k.toNat)))
      ·rw[e1]at f65
       have:zw oh t i=false:=by
        rw[C4];revert e1;cases uu n.n<;>cases ui (t.ns.map Nd.n) i<;>cases u9 oh n.f<;>cases((n.ins.length:Int)==kIn n.f.k.toNat)<;>simp
       simp only[go_sem,f65,no this]
      ·rw[e1]at f65
       simp only[cd]at e1;obtain⟨e1a,e1b,e1c,e1d⟩:=e1;rw[e1a,e1b,e1c,e1d]at C4;simp only[qu]at C4;simp only[go_sem,eb,f65]
       refine dq n.ins.length (fun k s'=>s'.base=0∧s'.tmp 1= .dv 1 (s'.ver 1) 0∧s'.bm 1=some (.loc [.d (.dt 2 (t.ps.map pn)),.d (.dt 5 (t.ns.map xe))])∧s'.tmp 3= .d (.int .i64 i)∧s'.tmp 4= .dv 4 (s'.ver 4) 0∧
        s'.bm 4=some (.loc [.d (.str n.n),.d (.int .i64 n.f.k),.d (.dt 3 (n.f.vs.map Cn)),.d (.dt 1 (n.f.ls.map fun l=>[se l])),.d (.dt 1 (n.ins.map sv))])∧s'.tmp 5= .d (.int .i64 k)∧∀k',k'<k→Sb t.ns (n.ins.getD k' ⟨#[]⟩)=true) ?_ ?_
       ·simp only[go_sem,aa,f1,b1,f3,f4,b4]
        simp
       ·clear eb f1 b1 f3 f4 b4
        rintro k s4 hk ⟨eb,f1,b1,f3,f4,b4,f5,hK⟩;by_cases Ch:(k:Int)<n.ins.length
        ·have mq:k<n.ins.length:=by omega
         have wk:=br ((k:Int)+1) (by omega) (by omega)
         have hix:=ar6 A t (n.ins.getD k ⟨#[]⟩) (by omega)
         have asz:=ao2 t.ns (n.ins.getD k ⟨#[]⟩) 0 (by omega)
         simp only[sf,ix,jj]at hix;simp only[go_sem,aa,ab,reduceCtorEq,eb,f1,b1,f4,b4,f5,ae,Ch,Fp mq,toNat_cast,aj];refine gf hix ?_;cases c5:Sb t.ns (n.ins.getD k ⟨#[]⟩)
         ·have hn:=asz.2 c5
          have:zw oh t i=false:=by rw[C4,all_false mq c5,cz]
          simp only[go_sem,aa,reduceCtorEq,hn,no this]
         ·have hn:¬a15 t.ns (n.ins.getD k ⟨#[]⟩) 0<0:=fun h=>by rw[asz.1 h]at c5;cases c5
          simp only[go_sem,aa,reduceCtorEq,f1,b1,f3,f4,b4,f5,hn,wk,mq]
          exact⟨by simp,og hK c5⟩
        ·have:k=n.ins.length:=by omega
         subst this;rw[all_true hK,qu]at C4;simp only[go_sem,aa,ab,ag,reduceCtorEq,eb,f1,b1,f3,f4,b4,f5,ae,Ch];refine gf ajx ?_;cases c6:((ur oh n.f t.ps).2==0)
         ·have c6':((ur oh n.f t.ps).2 !=0)=true:=by unfold bne;rw[c6];rfl
          have:zw oh t i=false:=by rw[C4,c6]
          simp only[go_sem,aa,reduceCtorEq,c6',no this]
         ·have c6':((ur oh n.f t.ps).2 !=0)=false:=by unfold bne;rw[c6];rfl
          simp only[go_sem,aa,reduceCtorEq,f1,b1,f3,c6',wi,cj]
          exact⟨by simp,og hI (by rw[C4,c6])⟩
    ·have:i=t.ns.length:=by omega
     subst this;rw[all_true hI]
     have ho:=ar3 A t (by omega) (fun n hn=>by have:=(hs2 n hn).1;omega)
     simp only[sf,ix,jj,ma]at ho;simp only[go_sem,aa,ab,reduceCtorEq,eb,f1,b1,f3,ae,iy];refine ee ho ?_;simp only[go_sem,aa,ab,reduceCtorEq,f1,b1,ae]
end
def Wk(x y:D):Prop:=∀G v,fh G x v→fh G y v
theorem Wk.refl(x:D):Wk x x:=fun _ _ h=>h
theorem Wk.trans{x y z:D}(h:Wk x y)(k:Wk y z):Wk x z:=fun G v hv=>k G v (h G v hv)
theorem Wk.bd{sz:Nat}:Wk .bd (.dt sz []):=Iy
theorem Wk.agg{xs ys:List D}(hl:xs.length=ys.length)(h:∀(i:Nat) (x y:D),xs[i]? =some x→ys[i]? =some y→Wk x y):Wk (.agg xs) (.agg ys):=by
 intro G v hv
 cases hv with
 | @agg _ vs k1 k2=>
  refine .agg (by omega) fun i y u hy hu=>?_
  have hi:i<xs.length:=by have:=(aq.1 hy).1;omega
  exact h i xs[i] y (ao hi) hy G u (k2 i _ u (ao hi) hu)
theorem Wk.dt{sz:Nat}{xs ys:List (List D)}(hl:xs.length=ys.length)(h:∀(i:Nat) (a b:List D),xs[i]? =some a→ys[i]? =some b→a.length=b.length∧∀(j:Nat) (x y:D),a[j]? =some x→b[j]? =some y→Wk x y):Wk (.dt sz xs) (.dt sz ys):=by
 intro G v hv
 cases hv with
 |Tb=>
  have:ys=[]:=jb (by simpa using hl.symm)
  subst this;exact .Tb
 |Uk=>
  have:ys=[]:=jb (by simpa using hl.symm)
  subst this;exact .Uk
 | @dt _ _ b o c hc hs h1 h2=>
  rw[hl]at hc h1⊢
  have get:∀(i:Nat) (e:List D),ys[i]? =some e→∃a:List D,xs[i]? =some a∧a.length=e.length:=fun i e he=>by
   have hi:i<xs.length:=by have:=(aq.1 he).1;omega
   exact⟨xs[i],ao hi,(h i _ e (ao hi) he).1⟩
  refine .dt hc (fun i e he=>?_) h1 (fun i e j x u he hx hu=>?_)
  ·obtain⟨a,ha,hal⟩:=get i e he
   rw[←hal];exact hs i a ha
  ·obtain⟨a,ha,hal⟩:=get i e he
   have hj:j<a.length:=by have:=(aq.1 hx).1;omega
   exact(h i a e ha he).2 j a[j] x (ao hj) hx G u (h2 i a j _ u ha (ao hj) hu)
def Cm(sz:Nat)(els:List (List D)):D:=if els=[]then .bd else .dt sz els
theorem Jf{sz:Nat}{els:List (List D)}:Wk (Cm sz els) (.dt sz els):=by
 unfold Cm;split
 ·rename_i h;rw[h];exact Wk.bd
 ·exact Wk.refl _
theorem uc.Ut{s:PS}{id sz:Nat}{els:List (List D)}{v:V}(h:uc s id sz els v):Ut s v=some (Cm sz els):=by
 rcases h with ⟨rfl,rfl⟩|⟨h1,rfl,h3⟩
 ·rfl
 ·unfold Cm
  rw[if_neg h1];simp only[PI.Ut,Nr,PS.els,h3,if_true,aGm]
theorem uc.cells{s:PS}{id sz:Nat}{els:List (List D)}{v:V}(h:uc s id sz els v):∃c,v.cells s=some [c]∧c.toV=v∧c.one s=true∧Nr s c=some (Cm sz els,if els=[]then[]else[id]):=by
 rcases h with ⟨rfl,rfl⟩|⟨h1,rfl,h3⟩
 ·exact⟨.d .bd,rfl,rfl,rfl,by simp[Nr,Cm]⟩
 ·have he:PS.els s id (s.ver id)=some (sz,els):=by unfold PS.els;rw[if_pos rfl,h3]
  have hn:=af7 he
  refine⟨.ref id (s.ver id) els.length,by simp[V.cells,hn],rfl,by simp[C.one,V.live,hn],by simp[Nr,he,Cm,h1]⟩
section
variable{P:Program}(A:Pr P)
theorem am8(l:List Pm)(hl:l.length*24≤2^47):fp P A.zz [ix l] (ix l):=by
 have main:fp P A.zz [ix l] (Cm 2 (l.map pn)):=by
  refine cy A.mo A.a1k (by simp) ?_
  show jd P Ln (kf _ _) _;simp only[Ln,ix,go_sem]
  refine dq l.length (fun i s'=>s'.base=0∧s'.tmp 0= .d (.dt 2 (l.map pn))∧s'.tmp 4= .d (.int .i64 i)∧uc s' 24 2 ((l.take i).map pn) (s'.tmp 3)) ?_ ?_
  ·simp only[go_sem,aa,reduceCtorEq]
   exact uc.nil
  ·rintro i s' hi ⟨eb,f0,f4,acc⟩
   by_cases iy:(i:Int)<l.length
   ·have cj:i<l.length:=by omega
    have wi:=br ((i:Int)+1) (by omega) (by omega)
    simp only[go_sem,aa,ab,ag,reduceCtorEq,ca,eb,f0,f4,ae,iy,Vs cj,toNat_cast,aj]
    refine r8 (els:=(l.take i).map pn) (ys:=[pn l[i]]) (osz:=some 2) ?_ ?_ rfl (by simp[pn,D.one]) ?_ (by simp) ?_
    ·simp only[go_sem,aa]
     exact acc.mono (by simp[al]) (by simp[al])
    ·simp only[go_sem,aa,ov]
     rfl
    ·simp only[ae,bq,dh,dd]
     omega
    ·intro s3 g
     have ha2:=g.acc (by simp)
     rw[g.tmp,bh]at ha2;simp only[eh]at ha2;simp only[go_sem,aa,reduceCtorEq,g.tmp,f0,f4,wi,g.base,cj]
     refine⟨by simp,?_⟩
     have e1:(l.take (i+1)).map pn=(l.take i).map pn++[pn l[i]]:=by
      rw[ey,fb];simp[cj]
     rw[e1];exact ha2.mono rfl rfl
   ·have:i=l.length:=by omega
    subst this;rw[eo]at acc;simp only[go_sem,aa,reduceCtorEq,eb,f0,f4,ae,iy];have:=acc.Ut;rcases acc with ⟨a1,a2⟩|⟨a1,a2,a3⟩
    ·simp only[a1,a2,Cm,if_true]
    ·simp only[Cm,if_neg a1,a2,a3,if_true]
 exact main.Qe Jf
def cLp(l:List Sp):List D:=[Cm 2 (l.map zm)]
theorem al4(ls:List (List Sp)):Wk (Cm 1 (ls.map cLp)) (jv ls):=by
 refine Jf.trans (Wk.dt (by simp) fun i a b ha hb=>?_)
 simp only[bp,ak]at ha hb;obtain⟨l,hl,rfl⟩:=ha;obtain⟨l',hl',rfl⟩:=hb;rw[hl]at hl'
 injection hl' with hl'
 subst hl'
 refine⟨rfl,fun j x y hx hy=>?_⟩
 match j with
 |0=>simp only[cLp,ff,ah]at hx hy;subst hx hy;exact Jf
 |j+1=>simp[cLp]at hx
theorem ain(ls:List (List Sp))(h1:ls.length≤2^30)(h2:∀l∈ls,l.length≤2^30):fp P A.Be [.agg [jv ls]] (jv ls):=by
 have main:fp P A.Be [.agg [jv ls]] (Cm 1 (ls.map cLp)):=by
  refine cy A.mo A.a4a (by simp) ?_
  show jd P Nn (kf _ _) _;simp only[Nn,jv,go_sem]
  refine dq ls.length (fun i s'=>s'.base=0∧s'.tmp 1= .dv 1 (s'.ver 1) 0∧s'.bm 1=some (.loc [.d (.dt 1 (ls.map fun l=>[se l]))])∧s'.tmp 4= .d (.int .i64 i)∧uc s' 38 1 ((ls.take i).map cLp) (s'.tmp 3)) ?_ ?_
  ·simp only[go_sem,aa]
   exact uc.nil
  ·rintro i s' hi ⟨eb,f1,b1,f4,acc⟩
   by_cases iy:(i:Int)<ls.length
   ·have cj:i<ls.length:=by omega
    have wi:=br ((i:Int)+1) (by omega) (by omega)
    have hgi:=Cf cj;have hli:=h2 _ (bz cj);simp only[go_sem,aa,reduceCtorEq,eb,f1,b1,f4,ae,iy]
    refine dq ls[i].length (fun k s'=>s'.base=0∧s'.tmp 1= .dv 1 (s'.ver 1) 0∧s'.bm 1=some (.loc [.d (.dt 1 (ls.map fun l=>[se l]))])∧s'.tmp 4= .d (.int .i64 i)∧uc s' 38 1 ((ls.take i).map cLp) (s'.tmp 3)∧
     s'.tmp 6= .d (.int .i64 k)∧uc s' 34 2 ((ls[i].take k).map zm) (s'.tmp 5)) ?_ ?_
    ·simp only[go_sem,aa,f1,b1,f4]
     exact⟨acc.mono rfl rfl,uc.nil⟩
    ·clear eb f1 b1 f4 acc
     rintro k s2 hk ⟨eb,f1,b1,f4,acc,f6,a92⟩;by_cases Ch:(k:Int)<ls[i].length
     ·have mq:k<ls[i].length:=by omega
      have wk:=br ((k:Int)+1) (by omega) (by omega)
      simp only[go_sem,aa,ab,reduceCtorEq,ca,eb,f1,b1,f4,f6,ae,Ch,hgi,Bm mq,toNat_cast,aj]
      refine r8 (els:=(ls[i].take k).map zm) (ys:=[zm (ls[i].getD k (0,0))]) (osz:=some 2) ?_ ?_ rfl (by simp[zm,D.one]) ?_ (by simp) ?_
      ·simp only[go_sem,aa]
       exact a92.mono (by simp[al]) (by simp[al])
      ·simp only[go_sem,aa,ov]
       rfl
      ·simp only[ae,bq,dh,dd]
       omega
      ·intro s3 g
       have ha2:=g.acc (by simp)
       rw[g.tmp,bh]at ha2;simp only[eh]at ha2
       have gv:=g.ver 1 (by simp)
       have gb:s3.bm 1=s2.bm 1:=by rw[g.bm];simp[al]
       have gv':=g.ver 38 (by simp)
       have gb':s3.bm 38=s2.bm 38:=by rw[g.bm];simp[al]
       simp only[go_sem,aa,reduceCtorEq,g.tmp,f1,f4,f6,wk,g.base,mq,gv,gb,b1]
       refine⟨acc.mono (by simp[gv',al]) gb',by simp,?_⟩
       have e1:(ls[i].take (k+1)).map zm=(ls[i].take k).map zm++[zm (ls[i].getD k (0,0))]:=by
        rw[ey,fb];simp[mq,bn]
       rw[e1];exact ha2.mono rfl rfl
     ·have:k=ls[i].length:=by omega
      subst this;rw[eo]at a92
      have e1:(ls.take (i+1)).map cLp=(ls.take i).map cLp++[cLp ls[i]]:=by
       rw[ey,fb];simp[cj]
      rcases a92 with ⟨a1,a2⟩|⟨a1,a2,a3⟩
      ·have hc:cLp ls[i]=[.bd]:=by unfold cLp Cm;rw[if_pos a1]
       simp only[go_sem,aa,reduceCtorEq,ca,eb,f1,b1,f4,f6,ae,Ch,hgi,toNat_cast,aj,a2]
       refine r8 (els:=(ls.take i).map cLp) (ys:=[cLp ls[i]]) (osz:=some 1) ?_ ?_ rfl (by rw[hc];rfl) ?_ (by simp) ?_
       ·simp only[go_sem,aa]
        exact acc.mono (by simp[al]) (by simp[al])
       ·simp only[go_sem,aa,ov,hc]
       ·simp only[ae,bq,dh,dd]
        omega
       ·intro s3 g
        have ha2:=g.acc (by simp)
        rw[g.tmp,bh]at ha2;simp only[eh]at ha2
        have gv:=g.ver 1 (by simp)
        have gb:s3.bm 1=s2.bm 1:=by rw[g.bm];simp[al]
        simp only[go_sem,aa,reduceCtorEq,g.tmp,f1,f4,wi,g.base,cj,gv,gb,b1,e1]
        exact⟨by simp,ha2.mono rfl rfl⟩
      ·have hc:cLp ls[i]=[.dt 2 (ls[i].map zm)]:=by unfold cLp Cm;rw[if_neg a1]
       simp only[go_sem,aa,reduceCtorEq,ca,eb,f1,b1,f4,f6,ae,Ch,hgi,toNat_cast,aj,a2,a3]
       refine r8 (els:=(ls.take i).map cLp) (ys:=[cLp ls[i]]) (osz:=some 1) ?_ ?_ rfl (by rw[hc];rfl) ?_ (by simp) ?_
       ·simp only[go_sem,aa]
        exact acc.mono (by simp[al]) (by simp[al])
       ·simp only[go_sem,aa,ov,hc]
       ·simp only[ae,bq,dh,dd]
        omega
       ·intro s3 g
        have ha2:=g.acc (by simp)
        rw[g.tmp,bh]at ha2;simp only[eh]at ha2
        have gv:=g.ver 1 (by simp)
        have gb:s3.bm 1=s2.bm 1:=by rw[g.bm];simp[al]
        simp only[go_sem,aa,reduceCtorEq,g.tmp,f1,f4,wi,g.base,cj,gv,gb,b1,e1]
        exact⟨by simp,ha2.mono rfl rfl⟩
   ·have:i=ls.length:=by omega
    subst this;rw[eo]at acc;simp only[go_sem,aa,reduceCtorEq,eb,f1,b1,f4,ae,iy];rcases acc with ⟨a1,a2⟩|⟨a1,a2,a3⟩
    ·simp only[a1,a2,Cm,if_true]
    ·simp only[Cm,if_neg a1,a2,a3,if_true]
 exact main.Qe (al4 ls)
end
def Xq(s:PS)(id sz:Nat)(els:List (List D))(c:C):Prop:=
 (els=[]∧c= .d .bd)∨(els≠[]∧c= .ref id (s.ver id) els.length∧s.bm id=some (.arr sz els))
theorem Xq.acc{s:PS}{id sz:Nat}{els:List (List D)}{c:C}(h:Xq s id sz els c):uc s id sz els c.toV:=by
 rcases h with ⟨h1,rfl⟩|⟨h1,rfl,h3⟩
 ·exact .inl ⟨h1,rfl⟩
 ·exact .inr ⟨h1,rfl,h3⟩
theorem Xq.mono{s s':PS}{id sz:Nat}{els:List (List D)}{c:C}(h:Xq s id sz els c)(hv:s'.ver id=s.ver id)(hb:s'.bm id=s.bm id):Xq s' id sz els c:=by
 rcases h with ⟨h1,h2⟩|⟨h1,h2,h3⟩
 ·exact .inl ⟨h1,h2⟩
 ·exact .inr ⟨h1,by rw[hv];exact h2,by rw[hb];exact h3⟩
theorem Xq.nil{s:PS}{id sz:Nat}:Xq s id sz [] (.d .bd):= .inl ⟨rfl,rfl⟩
def wFt(f:Ft):D:= .agg [.int .i64 f.k,Cm 3 (f.vs.map Cn),jv f.ls]
section
variable{P:Program}(A:Pr P)
theorem aim(f:Ft)(hv:f.vs.length≤2^30)(h1:f.ls.length≤2^30)(h2:∀l∈f.ls,l.length≤2^30):fp P A.Bd [.agg (cFt f)] (.agg (cFt f)):=by
 have main:fp P A.Bd [.agg (cFt f)] (wFt f):=by
  refine cy A.mo A.a47 (by simp) ?_
  show jd P (Nk A.Be) (kf _ _) _;have ht:=ain A f.ls h1 h2;simp only[jv]at ht;simp only[Nk,cFt,ua,jv,go_sem,aa,ab,ag];refine ee ht ?_;simp only[go_sem,aa,ab,ag]
  refine dq f.vs.length (fun i s'=>s'.base=0∧s'.tmp 1= .dv 1 (s'.ver 1) 0∧s'.bm 1=some (.loc [.d (.int .i64 f.k),.d (.dt 3 (f.vs.map Cn)),.d (.dt 1 (f.ls.map fun l=>[se l]))])∧s'.tmp 4= .d (.int .i64 i)∧
   s'.tmp 2= .dv 2 (s'.ver 2) 0∧s'.bm 2=some (.loc [.d (.int .i64 0),.d .bd,.d .bd])∧s'.tmp 3= .dv 3 (s'.ver 3) 0∧
   ∃c,s'.bm 3=some (.loc [.d (.int .i64 f.k),c,.d (.dt 1 (f.ls.map fun l=>[se l]))])∧Xq s' 36 3 ((f.vs.take i).map Cn) c) ?_ ?_
  ·simp only[go_sem,aa]
   exact⟨_,rfl,Xq.nil⟩
  ·rintro i s' hi ⟨eb,f1,b1,f4,f2,b2,f3,c,b3,acc⟩
   by_cases iy:(i:Int)<f.vs.length
   ·have cj:i<f.vs.length:=by omega
    have wi:=br ((i:Int)+1) (by omega) (by omega)
    have e1:(f.vs.take (i+1)).map Cn=(f.vs.take i).map Cn++[Cn (f.vs.getD i v0)]:=by
     rw[ey,fb];simp[cj,bn]
    simp only[go_sem,aa,ab,ag,reduceCtorEq,ca,eb,f1,b1,f3,b3,f4,ae,iy,S6 cj,toNat_cast,aj]
    refine r8 (els:=(f.vs.take i).map Cn) (ys:=[Cn (f.vs.getD i v0)]) (osz:=some 3) ?_ ?_ rfl (by simp[Cn,D.one]) ?_ (by simp) ?_
    ·simp only[go_sem,aa]
     have:=acc.acc
     cases c<;>exact this.mono (by simp[al]) (by simp[al])
    ·simp only[go_sem,aa,ov,Cn]
    ·simp only[ae,bq,dh,dd]
     omega
    ·intro s3 g
     have gv1:=g.ver 1 (by simp)
     have gv2:=g.ver 2 (by simp)
     have gv3:=g.ver 3 (by simp)
     have gb1:s3.bm 1=s'.bm 1:=by rw[g.bm];simp[al]
     have gb2:s3.bm 2=s'.bm 2:=by rw[g.bm];simp[al]
     have gb3:s3.bm 3=s'.bm 3:=by rw[g.bm];simp[al]
     have azn:s3.bm 36=some (.arr 3 ((f.vs.take i).map Cn++[Cn (f.vs.getD i v0)])):=by rw[g.bm];simp[al]
     have gt:=g.tmp;simp only[eh]at gt;simp only[al,aa,reduceIte]at gv1 gv2 gv3;simp only[go_sem,aa,ab,ag,reduceCtorEq,gt,f1,f2,f3,f4,wi,g.base,cj,gv1,gv2,gv3,gb1,gb2,gb3,azn,b1,b2,b3,beq_self_eq_true,e1]
     exact⟨by simp,_,rfl,.inr ⟨by simp,rfl,by simp[al,azn]⟩⟩
   ·have:i=f.vs.length:=by omega
    subst this;rw[eo]at acc;rcases acc with ⟨a1,rfl⟩|⟨a1,rfl,a3⟩
    ·simp only[go_sem,aa,ab,ag,reduceCtorEq,eb,f1,b1,f2,b2,f3,b3,f4,ae,iy,wFt,jv]
     rw[Cm,if_pos a1]
    ·simp only[go_sem,aa,ab,ag,reduceCtorEq,eb,f1,b1,f2,b2,f3,b3,f4,ae,iy,wFt,jv,a3,beq_self_eq_true]
     rw[Cm,if_neg a1]
 refine main.Qe (Wk.agg (by simp[cFt]) fun i x y hx hy=>?_)
 match i with
 |0=>simp only[cFt,ff,ah]at hx hy;subst hx hy;exact Wk.refl _
 |1=>simp only[cFt,jx,ff,ah]at hx hy;subst hx hy;exact Jf
 |2=>simp only[cFt,jx,ff,ah]at hx hy;subst hx hy;exact Wk.refl _
 |i+3=>simp at hx
theorem am9(n:Nd)(hv:n.f.vs.length≤2^30)(h1:n.f.ls.length≤2^30)(h2:∀l∈n.f.ls,l.length≤2^30):fp P A.xh [.agg (xe n)] (.agg (xe n)):=by
 refine cy A.mo A.a88 (by simp) ?_
 show jd P (Pg A.Bd) (kf _ _) _;have ht:=aim A n.f hv h1 h2;simp only[cFt,ua,jv]at ht;simp only[Pg,xe,ua,jv,ma,go_sem,aa,ab,ag];refine ee ht ?_;simp only[go_sem,aa,ab,ag]
theorem Wa(t:Tr)(hp:t.ps.length*24≤2^47)(hs:Rk t):fp P A.ue [.agg (sf t)] (.agg (sf t)):=by
 have main:fp P A.ue [.agg (sf t)] (.agg [ix t.ps,Cm 5 (t.ns.map xe)]):=by
  refine cy A.mo A.a3z (by simp) ?_
  show jd P (Ni A.zz A.xh) (kf _ _) _;have ht:=am8 A t.ps hp;obtain⟨hs1,hs2⟩:=hs;simp only[ix]at ht;simp only[Ni,sf,ix,jj,go_sem,aa,ab,ag];refine ee ht ?_;simp only[go_sem,aa,ab,ag]
  refine dq t.ns.length (fun i s'=>s'.base=0∧s'.tmp 1= .dv 1 (s'.ver 1) 0∧s'.bm 1=some (.loc [.d (.dt 2 (t.ps.map pn)),.d (.dt 5 (t.ns.map xe))])∧s'.tmp 4= .d (.int .i64 i)∧
   s'.tmp 2= .dv 2 (s'.ver 2) 0∧s'.bm 2=some (.loc [.d .bd,.d .bd])∧s'.tmp 3= .dv 3 (s'.ver 3) 0∧
   ∃c,s'.bm 3=some (.loc [.d (.dt 2 (t.ps.map pn)),c])∧Xq s' 27 5 ((t.ns.take i).map xe) c) ?_ ?_
  ·simp only[go_sem,aa]
   exact⟨_,rfl,Xq.nil⟩
  ·rintro i s' hi ⟨eb,f1,b1,f4,f2,b2,f3,c,b3,acc⟩
   by_cases iy:(i:Int)<t.ns.length
   ·have cj:i<t.ns.length:=by omega
    have wi:=br ((i:Int)+1) (by omega) (by omega)
    have hgn:t.ns.getD i n0=t.ns[i]:=by simp[bn,cj]
    have e1:(t.ns.take (i+1)).map xe=(t.ns.take i).map xe++[xe (t.ns.getD i n0)]:=by
     rw[ey,fb];simp[cj,bn]
    obtain⟨q1,q2,q3,q4⟩:=hs2 _ (bz cj);rw[←hgn]at q1 q2 q3 q4;have hn:=am9 A (t.ns.getD i n0) q2 q3 q4;have hg:=Fw cj
    generalize t.ns.getD i n0=n at*
    simp only[xe,ua,jv,ma]at hn hg;simp only[go_sem,aa,ab,reduceCtorEq,eb,f1,b1,f3,b3,f4,ae,iy,hg,toNat_cast,aj];refine ee hn ?_;simp only[go_sem,aa,ab,ca]
    refine r8 (els:=(t.ns.take i).map xe) (ys:=[xe n]) (osz:=some 5) ?_ ?_ rfl (by simp[xe,D.one,ua,jv,ma]) ?_ (by simp) ?_
    ·simp only[go_sem,aa]
     have:=acc.acc
     cases c<;>exact this.mono (by simp[al]) (by simp[al])
    ·simp only[go_sem,aa,ov,xe,ua,jv,ma]
    ·simp only[ae,bq,dh,dd]
     omega
    ·intro s3 g
     have gv1:=g.ver 1 (by simp)
     have gv2:=g.ver 2 (by simp)
     have gv3:=g.ver 3 (by simp)
     have gb1:s3.bm 1=s'.bm 1:=by rw[g.bm];simp[al]
     have gb2:s3.bm 2=s'.bm 2:=by rw[g.bm];simp[al]
     have gb3:s3.bm 3=s'.bm 3:=by rw[g.bm];simp[al]
     have azo:s3.bm 27=some (.arr 5 ((t.ns.take i).map xe++[xe n])):=by rw[g.bm];simp[al]
     have gt:=g.tmp;simp only[eh]at gt;simp only[al,aa,reduceIte]at gv1 gv2 gv3;simp only[go_sem,aa,ab,reduceCtorEq,gt,f1,f2,f3,f4,wi,g.base,cj,gv1,gv2,gv3,gb1,gb2,gb3,azo,b1,b2,b3,beq_self_eq_true,e1]
     exact⟨by simp,_,rfl,.inr ⟨by simp,rfl,by simp[al,azo]⟩⟩
   ·have:i=t.ns.length:=by omega
    subst this;rw[eo]at acc;rcases acc with ⟨a1,rfl⟩|⟨a1,rfl,a3⟩
    ·simp only[go_sem,aa,ab,reduceCtorEq,eb,f1,b1,f2,b2,f3,b3,f4,ae,iy]
     rw[Cm,if_pos a1]
    ·simp only[go_sem,aa,ab,reduceCtorEq,eb,f1,b1,f2,b2,f3,b3,f4,ae,iy,a3,beq_self_eq_true]
     rw[Cm,if_neg a1]
 refine main.Qe (Wk.agg (by simp[sf]) fun i x y hx hy=>?_)
 match i with
 |0=>simp only[sf,ff,ah]at hx hy;subst hx hy;exact Wk.refl _
 |1=>simp only[sf,jx,ff,ah]at hx hy;subst hx hy;exact Jf
 |i+2=>simp at hx
end
def aB4(ls:List (List Sp)):Nat:=(ls.map Cq).sum
def a2g(ls:List (List Sp)):Nat→Int
 |0=>ls.length
 |k+1=>Mx .i64 (a2g ls k+(ls.getD k []).length)
def a6m(ls:List (List Sp)):Bool:=decide (a2g ls ls.length≤100)
def Df(s:ByteArray):Bool:=decide (s.size≤100)
def Ul(f:Ft)(ps:List Pm):Bool:=
 ((cq (min ps.length 40)).all fun i=>Df ((ps.map Pm.n).getD i ⟨#[]⟩))&&(((cq (min f.vs.length 40)).all fun i=>Df (f.vs.getD i v0).n)&&
  (decide (ps.length≤40)&&(decide (f.vs.length≤40)&&a6m f.ls)))
def N0(t:Tr)(i:Nat):Bool:=
 Ul (t.ns.getD i n0).f t.ps&&(Df (t.ns.getD i n0).n&&(decide ((t.ns.getD i n0).ins.length≤10)&&(cq (t.ns.getD i n0).ins.length).all fun k=>Df ((t.ns.getD i n0).ins.getD k ⟨#[]⟩)))
def W8(t:Tr):Bool:=decide (t.ns.length≤25)&&(cq t.ns.length).all (N0 t)
section
variable{P:Program}(A:Pr P)
theorem aiq(ls:List (List Sp))(h:ls.length≤2^50):fp P A.D6 [.agg [jv ls]] (.bool (a6m ls)):=by
 refine cy A.mo A.a4b (by simp) ?_
 show jd P No (kf _ _) _;simp only[No,jv,go_sem,aa,ae]
 refine dq ls.length (fun i s'=>s'.tmp 1= .dv 1 (s'.ver 1) 0∧s'.bm 1=some (.loc [.d (.dt 1 (ls.map fun l=>[se l]))])∧s'.tmp 4= .d (.int .i64 i)∧s'.tmp 3= .d (.int .i64 (a2g ls i))) ?_ ?_
 ·simp only[go_sem,aa,a2g,Yo]
 ·rintro i s' hi ⟨f1,b1,f4,f3⟩
  by_cases iy:(i:Int)<ls.length
  ·have cj:i<ls.length:=by omega
   have wi:=br ((i:Int)+1) (by omega) (by omega)
   have hli:ls.getD i []=ls[i]:=by simp[bn,cj]
   have hc:a2g ls (i+1)=Mx .i64 (a2g ls i+ls[i].length):=by rw[a2g,hli]
   simp only[go_sem,aa,reduceCtorEq,f1,b1,f3,f4,ae,iy,Cf cj,toNat_cast,aj,wi,cj,hc];simp
  ·have:i=ls.length:=by omega
   subst this;simp only[go_sem,aa,reduceCtorEq,f1,b1,f3,f4,ae,iy,a6m]
theorem aip(f:Ft)(ps:List Pm)(h:f.ls.length≤2^50)(h1:f.vs.length≤2^50)(h2:ps.length≤2^50):fp P A.D5 [.agg (cFt f),ix ps] (.bool (Ul f ps)):=by
 refine cy A.mo A.a48 (by simp) ?_
 show jd P (Nl A.D6) (kf _ _) _;have hs:=aiq A f.ls h;simp only[jv]at hs;unfold Ul;simp only[Nl,cFt,ua,jv,ix,go_sem,ab]
 refine rv (fun s'=>s'.tmp 1= .d (.dt 2 (ps.map pn))∧s'.tmp 2= .dv 2 (s'.ver 2) 0∧s'.bm 2=some (.loc [.d (.int .i64 f.k),.d (.dt 3 (f.vs.map Cn)),.d (.dt 1 (f.ls.map fun l=>[se l]))])∧((cq (min ps.length 40)).all fun i=>Df ((ps.map Pm.n).getD i ⟨#[]⟩))=true) ?_ ?_
 ·refine dq 40 (fun i s'=>s'.tmp 1= .d (.dt 2 (ps.map pn))∧s'.tmp 2= .dv 2 (s'.ver 2) 0∧s'.bm 2=some (.loc [.d (.int .i64 f.k),.d (.dt 3 (f.vs.map Cn)),.d (.dt 1 (f.ls.map fun l=>[se l]))])∧s'.tmp 5= .d (.int .i64 i)∧i≤ps.length∧
   ∀i',i'<i→Df ((ps.map Pm.n).getD i' ⟨#[]⟩)=true) ?_ ?_
  ·simp only[go_sem,aa]
   simp
  ·rintro i s' hi ⟨f1,f2,b2,f5,hil,hI⟩
   by_cases iy:(i:Int)<ps.length
   ·have cj:i<ps.length:=by omega
    have wi:=br ((i:Int)+1) (by omega) (by omega)
    have hg:=Vs cj
    have hgn:(ps.map Pm.n).getD i ⟨#[]⟩=ps[i].n:=by simp[bn,cj]
    by_cases h40:(i:Int)<40
    ·simp only[go_sem,aa,ab,ag,reduceCtorEq,f1,f5,ae,iy,h40,hg,toNat_cast,aj]
     by_cases c1:(100:Int)<ps[i].n.size
     ·have:((cq (min ps.length 40)).all fun i=>Df ((ps.map Pm.n).getD i ⟨#[]⟩))=false:=all_false (k:=i) (by omega) (by rw[hgn];unfold Df;simp;omega)
      simp only[go_sem,aa,c1,this,cz]
     ·simp only[go_sem,aa,reduceCtorEq,f1,f2,b2,f5,c1,wi]
      exact⟨by omega,by simp,by omega,og hI (by rw[hgn];unfold Df;simp;omega)⟩
    ·simp only[go_sem,aa,reduceCtorEq,f1,f2,b2,f5,ae,iy,h40]
     exact all_true fun i' Dx=>hI i' (by omega)
   ·simp only[go_sem,aa,reduceCtorEq,f1,f2,b2,f5,ae,iy]
    exact all_true fun i' Dx=>hI i' (by omega)
 ·rintro s' ⟨f1,f2,b2,ha⟩
  rw[ha,qu];simp only[go_sem]
  refine rv (fun s'=>s'.tmp 1= .d (.dt 2 (ps.map pn))∧s'.tmp 2= .dv 2 (s'.ver 2) 0∧s'.bm 2=some (.loc [.d (.int .i64 f.k),.d (.dt 3 (f.vs.map Cn)),.d (.dt 1 (f.ls.map fun l=>[se l]))])∧((cq (min f.vs.length 40)).all fun i=>Df (f.vs.getD i v0).n)=true) ?_ ?_
  ·refine dq 40 (fun i s'=>s'.tmp 1= .d (.dt 2 (ps.map pn))∧s'.tmp 2= .dv 2 (s'.ver 2) 0∧s'.bm 2=some (.loc [.d (.int .i64 f.k),.d (.dt 3 (f.vs.map Cn)),.d (.dt 1 (f.ls.map fun l=>[se l]))])∧s'.tmp 6= .d (.int .i64 i)∧i≤f.vs.length∧
    ∀i',i'<i→Df (f.vs.getD i' v0).n=true) ?_ ?_
   ·simp only[go_sem,aa,f1,f2,b2]
    simp
   ·clear f1 f2 b2
    rintro i s' hi ⟨f1,f2,b2,f6,hil,hI⟩;by_cases iy:(i:Int)<f.vs.length
    ·have cj:i<f.vs.length:=by omega
     have wi:=br ((i:Int)+1) (by omega) (by omega)
     have hg:=S6 cj;by_cases h40:(i:Int)<40
     ·simp only[go_sem,aa,ab,ag,reduceCtorEq,f2,b2,f6,ae,iy,h40,hg,toNat_cast,aj]
      by_cases c1:(100:Int)<(f.vs.getD i v0).n.size
      ·have:((cq (min f.vs.length 40)).all fun i=>Df (f.vs.getD i v0).n)=false:=all_false (k:=i) (by omega) (by unfold Df;simp only[decide_eq_false_iff_not];omega)
       simp only[go_sem,aa,c1,this,cz]
      ·simp only[go_sem,aa,reduceCtorEq,f1,f2,b2,f6,c1,wi]
       exact⟨by omega,by simp,by omega,og hI (by unfold Df;simp only[decide_eq_true_eq];omega)⟩
     ·simp only[go_sem,aa,ab,ag,reduceCtorEq,f1,f2,b2,f6,ae,iy,h40]
      exact all_true fun i' Dx=>hI i' (by omega)
    ·simp only[go_sem,aa,ab,ag,reduceCtorEq,f1,f2,b2,f6,ae,iy]
     exact all_true fun i' Dx=>hI i' (by omega)
  ·clear f1 f2 b2
   rintro s' ⟨f1,f2,b2,hb⟩;rw[hb,qu];by_cases c1:(ps.length:Int)≤40
   ·have c1':ps.length≤40:=by omega
    by_cases c2:(f.vs.length:Int)≤40
    ·have c2':f.vs.length≤40:=by omega
     simp only[go_sem,aa,ab,ag,reduceCtorEq,f1,f2,b2,ae,c1,c1',c2,c2'];refine ee hs ?_;simp only[go_sem,aa]
    ·have c2':¬f.vs.length≤40:=by omega
     simp only[go_sem,aa,ab,ag,reduceCtorEq,f1,f2,b2,ae,c1,c1',c2,c2',cz]
   ·have c1':¬ps.length≤40:=by omega
    simp only[go_sem,aa,reduceCtorEq,f1,ae,c1,c1',cz]
def aAl(t:Tr):Prop:=t.ps.length≤2^50∧∀n∈t.ns,n.f.ls.length≤2^50∧n.f.vs.length≤2^50
theorem a4x(t:Tr)(hb:aAl t):fp P A.qz [.agg (sf t)] (.bool (W8 t)):=by
 refine cy A.mo A.a42 (by simp) ?_
 show jd P (J9 A.D5) (kf _ _) _;unfold W8;by_cases c0:(25:Int)<t.ns.length
 ·have c0':¬t.ns.length≤25:=by omega
  simp only[J9,sf,ix,jj,go_sem,aa,ab,reduceCtorEq,ae,c0,c0',cz]
 ·have c0':t.ns.length≤25:=by omega
  simp only[J9,sf,ix,jj,go_sem,aa,ab,reduceCtorEq,ae,c0,c0']
  refine dq t.ns.length (fun i s'=>s'.base=0∧s'.tmp 1= .dv 1 (s'.ver 1) 0∧s'.bm 1=some (.loc [.d (.dt 2 (t.ps.map pn)),.d (.dt 5 (t.ns.map xe))])∧s'.tmp 3= .d (.int .i64 i)∧∀i',i'<i→N0 t i'=true) ?_ ?_
  ·simp only[go_sem,aa]
   simp
  ·rintro i s' hi ⟨eb,f1,b1,f3,hI⟩
   by_cases iy:(i:Int)<t.ns.length
   ·have cj:i<t.ns.length:=by omega
    have wi:=br ((i:Int)+1) (by omega) (by omega)
    have hg:=Fw cj
    have hgn:t.ns.getD i n0=t.ns[i]:=by simp[bn,cj]
    obtain⟨q1,q2⟩:=hb.2 _ (bz cj);rw[←hgn]at q1 q2
    have C4:N0 t i=(Ul (t.ns.getD i n0).f t.ps&&(Df (t.ns.getD i n0).n&&(decide ((t.ns.getD i n0).ins.length≤10)&&(cq (t.ns.getD i n0).ins.length).all fun k=>Df ((t.ns.getD i n0).ins.getD k ⟨#[]⟩)))):=rfl
    have no:N0 t i=false→(cq t.ns.length).all (N0 t)=false:=fun h=>all_false cj h
    have hsh:=aip A (t.ns.getD i n0).f t.ps q1 q2 hb.1
    generalize t.ns.getD i n0=n at*
    simp only[cFt,ua,jv,ix]at hsh;simp only[ua,jv,ma]at hg;simp only[go_sem,aa,ab,ag,reduceCtorEq,eb,f1,b1,f3,ae,iy,hg,toNat_cast,aj];refine gf hsh ?_;cases c1:Ul n.f t.ps
    ·have:N0 t i=false:=by rw[C4,c1];rfl
     simp only[go_sem,aa,no this]
    ·by_cases c2:(100:Int)<n.n.size
     ·have:N0 t i=false:=by rw[C4,show Df n.n=false by unfold Df;simp;omega];simp
      simp only[go_sem,aa,ab,ag,reduceCtorEq,c2,no this]
     ·by_cases c3:(10:Int)<n.ins.length
      ·have:N0 t i=false:=by rw[C4,decide_eq_false (show¬n.ins.length≤10 by omega)];simp
       simp only[go_sem,aa,ab,ag,reduceCtorEq,c2,c3,ae,no this]
      ·have az0:N0 t i=(cq n.ins.length).all fun k=>Df (n.ins.getD k ⟨#[]⟩):=by
        rw[C4,c1,show Df n.n=true by unfold Df;simp;omega,decide_eq_true (show n.ins.length≤10 by omega)]
        rfl
       simp only[go_sem,aa,ab,ag,reduceCtorEq,c2,c3,ae]
       refine dq n.ins.length (fun k s'=>s'.base=0∧s'.tmp 1= .dv 1 (s'.ver 1) 0∧s'.bm 1=some (.loc [.d (.dt 2 (t.ps.map pn)),.d (.dt 5 (t.ns.map xe))])∧s'.tmp 3= .d (.int .i64 i)∧s'.tmp 4= .dv 4 (s'.ver 4) 0∧s'.bm 4=some (.loc [.d (.str n.n),.d (.int .i64 n.f.k),.d (.dt 3 (n.f.vs.map Cn)),.d (.dt 1 (n.f.ls.map fun l=>[se l])),.d (.dt 1 (n.ins.map sv))])∧s'.tmp 5= .d (.int .i64 k)∧∀k',k'<k→Df (n.ins.getD k' ⟨#[]⟩)=true) ?_ ?_
       ·simp only[go_sem,aa,f1,b1,f3]
        simp
       ·clear eb f1 b1 f3
        rintro k s2 hk ⟨eb,f1,b1,f3,f4,b4,f5,hK⟩;by_cases Ch:(k:Int)<n.ins.length
        ·have mq:k<n.ins.length:=by omega
         have wk:=br ((k:Int)+1) (by omega) (by omega)
         simp only[go_sem,aa,ab,reduceCtorEq,eb,f4,b4,f5,ae,Ch,Fp mq,toNat_cast,aj];by_cases c4:(100:Int)<(n.ins.getD k ⟨#[]⟩).size
         ·have:N0 t i=false:=by rw[az0];exact all_false mq (by unfold Df;simp only[decide_eq_false_iff_not];omega)
          simp only[go_sem,aa,c4,no this]
         ·simp only[go_sem,aa,reduceCtorEq,f1,b1,f3,f4,b4,f5,c4,wk,mq]
          exact⟨by simp,og hK (by unfold Df;simp only[decide_eq_true_eq];omega)⟩
        ·have:k=n.ins.length:=by omega
         subst this;simp only[go_sem,aa,ab,reduceCtorEq,eb,f1,b1,f3,f4,b4,f5,ae,Ch,wi,cj]
         exact⟨by simp,og hI (by rw[az0];exact all_true hK)⟩
   ·have:i=t.ns.length:=by omega
    subst this;rw[all_true hI];simp only[go_sem,aa,ab,reduceCtorEq,eb,f1,b1,f3,ae,iy]
end
theorem fp.args{P:Program}{f:Nat}{xs ys:List D}{r:D}(h:fp P f xs r)(hl:ys.length=xs.length)(hw:∀(i:Nat) (x y:D),xs[i]? =some x→ys[i]? =some y→Wk y x):fp P f ys r:=
 ⟨h.1,fun G w vs hG hl' hr=>h.2 G w vs hG (by omega) fun i x v hx hv=>by
  have hi:i<ys.length:=by have:=(aq.1 hx).1;omega
  exact hw i x _ hx (ao hi) G v (hr i _ v (ao hi) hv)⟩
theorem fp.aDo{P:Program}{f:Nat}{x y:D}{r:D}(h:fp P f [x] r)(hw:Wk y x):fp P f [y] r:=
 h.args rfl fun i a b ha hb=>by
  match i with
  |0=>simp at ha hb;subst ha hb;exact hw
  |i+1=>simp at ha
def agf(a b:List ByteArray):Bool:=decide (a.length=b.length)&&(cq a.length).all fun i=>jh (a.getD i ⟨#[]⟩) (b.getD i ⟨#[]⟩)
theorem adg(a:List ByteArray):agf a a=true:=by
 unfold agf;rw[decide_eq_true rfl,qu]
 exact all_true fun i _=>Tc _
theorem atz(a:ByteArray):(a==a)=true:=by
 have:(a==a)=(a.data==a.data):=rfl;rw[this];exact beq_self_eq_true _
section
variable{P:Program}(A:Pr P)
theorem avi(a b:List ByteArray)(h:a.length≤2^50):fp P A.Es [ma a,ma b] (.bool (agf a b)):=by
 refine cy A.mo A.a89 (by simp) ?_
 show jd P Kz (kf _ _) _;unfold agf;by_cases c0:a.length=b.length
 ·have c0':((a.length:Int) !=b.length)=false:=by simp[c0]
  simp only[Kz,ma,go_sem,aa,reduceCtorEq,ae,c0']
  refine dq a.length (fun i s'=>s'.tmp 0= .d (.dt 1 (a.map sv))∧s'.tmp 1= .d (.dt 1 (b.map sv))∧s'.tmp 5= .d (.int .i64 i)∧∀i',i'<i→jh (a.getD i' ⟨#[]⟩) (b.getD i' ⟨#[]⟩)=true) ?_ ?_
  ·simp only[go_sem,aa,reduceCtorEq]
   try simp
  ·rintro i s' hi ⟨f0,f1,f5,hI⟩
   by_cases iy:(i:Int)<a.length
   ·have cj:i<a.length:=by omega
    have az5:i<b.length:=by omega
    have wi:=br ((i:Int)+1) (by omega) (by omega)
    cases c1:jh (a.getD i ⟨#[]⟩) (b.getD i ⟨#[]⟩)
    ·have c1':=c1
     unfold jh at c1';simp only[go_sem,aa,reduceCtorEq,f0,f1,f5,ae,iy,Fp cj,Fp az5,toNat_cast,aj,c1'];rw[all_false cj c1,o9]
    ·have c1':=c1
     unfold jh at c1';simp only[go_sem,aa,reduceCtorEq,f0,f1,f5,ae,iy,Fp cj,Fp az5,toNat_cast,aj,c1',wi,cj]
     exact⟨by simp,og hI c1⟩
   ·have:i=a.length:=by omega
    subst this;simp only[go_sem,aa,reduceCtorEq,f0,f5,ae,iy];rw[all_true hI,decide_eq_true c0,aFb]
 ·have c0':((a.length:Int) !=b.length)=true:=by simp;omega
  simp only[Kz,ma,go_sem,aa,reduceCtorEq,ae,c0'];rw[decide_eq_false c0,cz]
theorem Pc(t:Tr)(hp:t.ps.length≤2^50)(hs:Rk t):fp P A.za [.agg (sf t),.agg (sf t)] (.bool true):=by
 refine cy A.mo A.a43 (by simp) ?_
 show jd P (Nj A.xh A.Es) (kf _ _) _;obtain⟨hs1,hs2⟩:=hs;simp only[Nj,sf,ix,jj,go_sem,aa,ab,ag,reduceCtorEq,ae,bne_self_eq_false]
 refine rv (fun s'=>s'.base=0∧s'.tmp 2= .dv 2 (s'.ver 2) 0∧s'.bm 2=some (.loc [.d (.dt 2 (t.ps.map pn)),.d (.dt 5 (t.ns.map xe))])∧s'.tmp 3= .dv 3 (s'.ver 3) 0∧s'.bm 3=some (.loc [.d (.dt 2 (t.ps.map pn)),.d (.dt 5 (t.ns.map xe))])) ?_ ?_
 ·refine dq t.ps.length (fun i s'=>s'.base=0∧s'.tmp 2= .dv 2 (s'.ver 2) 0∧s'.bm 2=some (.loc [.d (.dt 2 (t.ps.map pn)),.d (.dt 5 (t.ns.map xe))])∧s'.tmp 3= .dv 3 (s'.ver 3) 0∧s'.bm 3=some (.loc [.d (.dt 2 (t.ps.map pn)),.d (.dt 5 (t.ns.map xe))])∧s'.tmp 5= .d (.int .i64 i)) ?_ ?_
  ·simp only[go_sem,aa]
   try simp
  ·rintro i s' hi ⟨eb,f2,b2,f3,b3,f5⟩
   by_cases iy:(i:Int)<t.ps.length
   ·have cj:i<t.ps.length:=by omega
    have wi:=br ((i:Int)+1) (by omega) (by omega)
    have hg:(t.ps.map pn)[i]? =some [.str t.ps[i].n,.int .i64 t.ps[i].v]:=by simp[cj,pn]
    simp only[go_sem,aa,ab,ag,reduceCtorEq,eb,f2,b2,f3,b3,f5,ae,iy,hg,toNat_cast,aj,beq_self_eq_true,bne_self_eq_false,wi,cj]
    try simp
   ·simp only[go_sem,aa,ab,ag,reduceCtorEq,eb,f2,b2,f3,b3,f5,ae,iy]
 ·rintro s' ⟨eb,f2,b2,f3,b3⟩
  simp only[go_sem]
  refine dq t.ns.length (fun i s'=>s'.base=0∧s'.tmp 2= .dv 2 (s'.ver 2) 0∧s'.bm 2=some (.loc [.d (.dt 2 (t.ps.map pn)),.d (.dt 5 (t.ns.map xe))])∧s'.tmp 3= .dv 3 (s'.ver 3) 0∧s'.bm 3=some (.loc [.d (.dt 2 (t.ps.map pn)),.d (.dt 5 (t.ns.map xe))])∧s'.tmp 6= .d (.int .i64 i)) ?_ ?_
  ·simp only[go_sem,aa,eb,f2,b2,f3,b3]
   try simp
  ·clear eb f2 b2 f3 b3
   rintro i s' hi ⟨eb,f2,b2,f3,b3,f6⟩;by_cases iy:(i:Int)<t.ns.length
   ·have cj:i<t.ns.length:=by omega
    have wi:=br ((i:Int)+1) (by omega) (by omega)
    have hg:=Fw cj
    have hgn:t.ns.getD i n0=t.ns[i]:=by simp[bn,cj]
    obtain⟨q1,q2,q3,q4⟩:=hs2 _ (bz cj);rw[←hgn]at q1 q2 q3 q4;have hn:=am9 A (t.ns.getD i n0) q2 q3 q4
    have Ey:=avi A (t.ns.getD i n0).ins (t.ns.getD i n0).ins (by omega)
    rw[adg]at Ey
    generalize t.ns.getD i n0=n at*
    simp only[ua,jv,ma]at hg;simp only[xe,ua,jv,ma]at hn;simp only[ma]at Ey;simp only[go_sem,aa,ab,reduceCtorEq,eb,f2,b2,f6,ae,iy,hg,toNat_cast,aj];refine ee hn ?_;simp only[go_sem,aa,ab,ag,f3,b3,f6,hg,toNat_cast,aj,beq_self_eq_true];refine gf Ey ?_;simp only[go_sem,aa,ab,ag,reduceCtorEq,ae,bne_self_eq_false]
    refine rv (fun s'=>s'.base=0∧s'.tmp 2= .dv 2 (s'.ver 2) 0∧s'.bm 2=some (.loc [.d (.dt 2 (t.ps.map pn)),.d (.dt 5 (t.ns.map xe))])∧s'.tmp 3= .dv 3 (s'.ver 3) 0∧s'.bm 3=some (.loc [.d (.dt 2 (t.ps.map pn)),.d (.dt 5 (t.ns.map xe))])∧s'.tmp 6= .d (.int .i64 i)∧
     s'.tmp 7= .dv 7 (s'.ver 7) 0∧s'.bm 7=some (.loc [.d (.str n.n),.d (.int .i64 n.f.k),.d (.dt 3 (n.f.vs.map Cn)),.d (.dt 1 (n.f.ls.map fun l=>[se l])),.d (.dt 1 (n.ins.map sv))])∧s'.tmp 8= .dv 8 (s'.ver 8) 0∧s'.bm 8=some (.loc [.d (.str n.n),.d (.int .i64 n.f.k),.d (.dt 3 (n.f.vs.map Cn)),.d (.dt 1 (n.f.ls.map fun l=>[se l])),.d (.dt 1 (n.ins.map sv))])) ?_ ?_
    ·refine dq n.f.vs.length (fun k s'=>s'.base=0∧s'.tmp 2= .dv 2 (s'.ver 2) 0∧s'.bm 2=some (.loc [.d (.dt 2 (t.ps.map pn)),.d (.dt 5 (t.ns.map xe))])∧s'.tmp 3= .dv 3 (s'.ver 3) 0∧s'.bm 3=some (.loc [.d (.dt 2 (t.ps.map pn)),.d (.dt 5 (t.ns.map xe))])∧s'.tmp 6= .d (.int .i64 i)∧
      s'.tmp 7= .dv 7 (s'.ver 7) 0∧s'.bm 7=some (.loc [.d (.str n.n),.d (.int .i64 n.f.k),.d (.dt 3 (n.f.vs.map Cn)),.d (.dt 1 (n.f.ls.map fun l=>[se l])),.d (.dt 1 (n.ins.map sv))])∧s'.tmp 8= .dv 8 (s'.ver 8) 0∧s'.bm 8=some (.loc [.d (.str n.n),.d (.int .i64 n.f.k),.d (.dt 3 (n.f.vs.map Cn)),.d (.dt 1 (n.f.ls.map fun l=>[se l])),.d (.dt 1 (n.ins.map sv))])∧s'.tmp 9= .d (.int .i64 k)) ?_ ?_
     ·simp only[go_sem,aa,f2,b2,f3,b3,f6]
      try simp
     ·clear eb f2 b2 f3 b3 f6
      rintro k s' hk ⟨eb,f2,b2,f3,b3,f6,f7,b7,f8,b8,f9⟩;by_cases Ch:(k:Int)<n.f.vs.length
      ·have mq:k<n.f.vs.length:=by omega
       have wk:=br ((k:Int)+1) (by omega) (by omega)
       simp only[go_sem,aa,ab,ag,reduceCtorEq,eb,f2,b2,f3,b3,f6,f7,b7,f8,b8,f9,ae,Ch,S6 mq,toNat_cast,aj,beq_self_eq_true,atz,wk,mq]
       try simp
      ·simp only[go_sem,aa,ab,ag,reduceCtorEq,eb,f2,b2,f3,b3,f6,f7,b7,f8,b8,f9,ae,Ch]
    ·clear eb f2 b2 f3 b3 f6
     rintro s' ⟨eb,f2,b2,f3,b3,f6,f7,b7,f8,b8⟩;simp only[go_sem]
     refine dq n.f.ls.length (fun k s'=>s'.base=0∧s'.tmp 2= .dv 2 (s'.ver 2) 0∧s'.bm 2=some (.loc [.d (.dt 2 (t.ps.map pn)),.d (.dt 5 (t.ns.map xe))])∧s'.tmp 3= .dv 3 (s'.ver 3) 0∧s'.bm 3=some (.loc [.d (.dt 2 (t.ps.map pn)),.d (.dt 5 (t.ns.map xe))])∧s'.tmp 6= .d (.int .i64 i)∧
      s'.tmp 7= .dv 7 (s'.ver 7) 0∧s'.bm 7=some (.loc [.d (.str n.n),.d (.int .i64 n.f.k),.d (.dt 3 (n.f.vs.map Cn)),.d (.dt 1 (n.f.ls.map fun l=>[se l])),.d (.dt 1 (n.ins.map sv))])∧s'.tmp 8= .dv 8 (s'.ver 8) 0∧s'.bm 8=some (.loc [.d (.str n.n),.d (.int .i64 n.f.k),.d (.dt 3 (n.f.vs.map Cn)),.d (.dt 1 (n.f.ls.map fun l=>[se l])),.d (.dt 1 (n.ins.map sv))])∧s'.tmp 10= .d (.int .i64 k)) ?_ ?_
     ·simp only[go_sem,aa,eb,f2,b2,f3,b3,f6,f7,b7,f8,b8]
      try simp
     ·clear eb f2 b2 f3 b3 f6 f7 b7 f8 b8
      rintro k s' hk ⟨eb,f2,b2,f3,b3,f6,f7,b7,f8,b8,f10⟩;by_cases Ch:(k:Int)<n.f.ls.length
      ·have mq:k<n.f.ls.length:=by omega
       have wk:=br ((k:Int)+1) (by omega) (by omega)
       have hli:n.f.ls.getD k []=n.f.ls[k]:=by simp[bn,mq]
       have hll:=q4 _ (bz mq);rw[←hli]at hll;have hgl:=Cf mq;rw[←hli]at hgl
       generalize n.f.ls.getD k []=l at*
       simp only[go_sem,aa,ab,ag,reduceCtorEq,eb,f7,b7,f8,b8,f10,ae,Ch,hgl,toNat_cast,aj,bne_self_eq_false]
       refine dq l.length (fun j s'=>s'.base=0∧s'.tmp 2= .dv 2 (s'.ver 2) 0∧s'.bm 2=some (.loc [.d (.dt 2 (t.ps.map pn)),.d (.dt 5 (t.ns.map xe))])∧s'.tmp 3= .dv 3 (s'.ver 3) 0∧s'.bm 3=some (.loc [.d (.dt 2 (t.ps.map pn)),.d (.dt 5 (t.ns.map xe))])∧s'.tmp 6= .d (.int .i64 i)∧
        s'.tmp 7= .dv 7 (s'.ver 7) 0∧s'.bm 7=some (.loc [.d (.str n.n),.d (.int .i64 n.f.k),.d (.dt 3 (n.f.vs.map Cn)),.d (.dt 1 (n.f.ls.map fun l=>[se l])),.d (.dt 1 (n.ins.map sv))])∧s'.tmp 8= .dv 8 (s'.ver 8) 0∧s'.bm 8=some (.loc [.d (.str n.n),.d (.int .i64 n.f.k),.d (.dt 3 (n.f.vs.map Cn)),.d (.dt 1 (n.f.ls.map fun l=>[se l])),.d (.dt 1 (n.ins.map sv))])∧s'.tmp 10= .d (.int .i64 k)∧
        s'.tmp 11= .d (.dt 2 (l.map zm))∧s'.tmp 12= .d (.dt 2 (l.map zm))∧s'.tmp 13= .d (.int .i64 j)) ?_ ?_
       ·simp only[go_sem,aa,f2,b2,f3,b3,f6,f7,b7,f8,b8,f10]
        try simp
       ·clear eb f2 b2 f3 b3 f6 f7 b7 f8 b8 f10
        rintro j s' hj ⟨eb,f2,b2,f3,b3,f6,f7,b7,f8,b8,f10,f11,f12,f13⟩;by_cases aoc:(j:Int)<l.length
        ·have Qs:j<l.length:=by omega
         have wj:=br ((j:Int)+1) (by omega) (by omega)
         have hgj:(l.map zm)[j]? =some [.int .i64 l[j].1,.int .i64 l[j].2]:=by simp[Qs,zm]
         simp only[go_sem,aa,ab,reduceCtorEq,eb,f2,b2,f3,b3,f6,f7,b7,f8,b8,f10,f11,f12,f13,ae,aoc,hgj,toNat_cast,aj,beq_self_eq_true,wj,Qs]
         try simp
        ·simp only[go_sem,aa,reduceCtorEq,eb,f2,b2,f3,b3,f6,f7,b7,f8,b8,f10,f11,f13,ae,aoc,wk,mq]
         try simp
      ·simp only[go_sem,aa,ab,ag,reduceCtorEq,eb,f2,b2,f3,b3,f6,f7,b7,f10,ae,Ch,wi,cj]
       try simp
   ·simp only[go_sem,aa,ab,reduceCtorEq,eb,f2,b2,f6,ae,iy]
end
def ym(p:Nat→Bool)(n:Nat):Int:=match(cq n).find? p with|some i=>i|none=> -1
theorem Mq{p:Nat→Bool}{n:Nat}(h:∀i,i<n→p i=false):ym p n= -1:=by
 have:(cq n).find? p=none:=Ub.2 fun i hi=>by simp[h i (du.1 hi)]
 unfold ym;rw[this]
theorem af2{p:Nat→Bool}:∀{n k:Nat},k<n→p k=true→(∀i,i<k→p i=false)→(cq n).find? p=some k:=by
 intro n
 induction n with
 |zero=>intro k hk;omega
 |succ n ih=>
  intro k hk hp hb;rw[List.range_succ,List.find?_append];by_cases e:k=n
  ·subst e
   rw[Ub.2 fun i hi=>by simp[hb i (du.1 hi)]]
   simp[hp]
  ·rw[ih (by omega) hp hb];rfl
theorem R3{p:Nat→Bool}{n k:Nat}(hk:k<n)(hp:p k=true)(hb:∀i,i<k→p i=false):ym p n=k:=by
 unfold ym;rw[af2 hk hp hb]
theorem Ow{p:Nat→Bool}{n:Nat}:decide (ym p n≥0)=(cq n).any p:=by
 unfold ym
 cases h:(cq n).find? p with
 |none=>
  rw[Ub]at h
  have:(cq n).any p=false:=by
   rw[aq2]
   exact fun i hi=>by simpa using h i hi
  rw[this];rfl
 |some k=>
  have h1:=List.find?_some h;have h2:=Rn h;have:(cq n).any p=true:=Dh.2 ⟨k,h2,h1⟩;rw[this]
  try simp
theorem R2(p:Nat→Bool)(n:Nat):(ym p n= -1∧∀i,i<n→p i=false)∨∃k,k<n∧p k=true∧ym p n=k∧∀i,i<k→p i=false:=by
 cases h:(cq n).find? p with
 |none=>
  rw[Ub]at h
  exact .inl (by
   have h':∀i,i<n→p i=false:=fun i hi=>by simpa using h i (du.2 hi)
   exact⟨Mq h',h'⟩)
 |some k=>
  obtain⟨h1,as,bs,h2,h3⟩:=W1.1 h;have hk:=du.1 (Rn h)
  refine .inr ⟨k,hk,h1,by unfold ym;rw[h],fun i hi=>?_⟩
  have hlen:as.length=k:=by
   have h4:(cq n)[as.length]? =some k:=by rw[h2];simp
   have iy:as.length<n:=by
    have:=(aq.1 h4).1;simpa using this
   rw[Jx iy]at h4;exact aAo h4
  have:as[i]? =some i:=by
   have h5:(cq n)[i]? =some i:=Jx (by omega)
   rw[h2,jr (by omega)]at h5
   exact h5
  simpa using h3 i (lx this)
def ays(n:Nat)(agg:Bool):cn:=
 (.seq (
 .region [⟨some 4,.ij (.c (.int .i64 0)),none,[]⟩] false []) (
 (.seq (
  (.seq (
  .region [⟨some 6,.ij (.t 0),none,[]⟩,
   ⟨some 7,.len .dt (.t 6),none,[]⟩,
   ⟨some 8,.ij (.c (.int .i64 0)),none,[]⟩] false []) (
  (.block 0 (
   (.loop (
   (.seq (
    .region [⟨some 9,.bin .lss (.t 8) (.t 7),none,[]⟩] false []) (
    (.seq (
    (.cond (.t 9) (
     .skip) (
     .exit 0))) (
    (.seq (
     (.block 1 (
     (.seq (
      .region [⟨some 10,.ij (.t 8),none,[]⟩,
       ⟨some 5,.ij (.t 10),none,[]⟩] false []) (
      (.seq (
      .region [⟨some 11,.ij (.t 1),none,[]⟩,
       ⟨some 12,.ij (.t 0),none,[]⟩,
       ⟨some 13,.ij (.t 5),none,[]⟩,
       ⟨some 14,.te n (.t 12) (.t 13),none,[]⟩,
       ⟨some 15,.load n agg (.t 14),none,[]⟩,
       ⟨some 16,.vb (.t 11) [(.t 15)],none,[]⟩] false []) (
      (.cond (.t 16) (
       (.seq (
       .region [⟨some 17,.ij (.t 5),none,[]⟩,
        ⟨some 4,.ij (.t 17),none,[]⟩] false []) (
       .ret))) (
       .skip))))))))) (
     .region [⟨some 18,.bin .add (.t 8) (.c (.int .i64 1)),none,[]⟩,
      ⟨some 8,.ij (.t 18),none,[]⟩] false []))))))))))))) (
  (.seq (
  .region [⟨some 4,.ij (.c (.int .i64 (-1))),none,[]⟩] false []) (
  .ret))))))
def aA4(f:Nat):cn:=
 (.seq (
 .region [⟨some 4,.ij (.c (.bool false)),none,[]⟩] false []) (
 (.seq (
  .region [⟨some 5,.ij (.t 0),none,[]⟩,
   ⟨some 6,.ij (.t 1),none,[]⟩,
   ⟨some 7,.call f [(.t 5),(.t 6)],none,[]⟩,
   ⟨some 8,.bin .geq (.t 7) (.c (.int .i64 0)),none,[]⟩,
   ⟨some 4,.ij (.t 8),none,[]⟩] false []) (
  .ret))))
theorem anj{n:Nat}{agg:Bool}{e:List D}(h:e.length=n):mkd agg (aGu n e)=mkd agg e:=by rw[←h,eo]
section
variable{P:Program}(A:Pr P)
theorem a0i{n:Nat}{agg:Bool}{els:List (List D)}{xs:Nat→D}{g:Nat}{caps:List D}{p:Nat→Bool}(hx:∀(i:Nat) (e:List D),els[i]? =some e→e.length=n∧mkd agg e= .d (xs i))
  (hp:∀i,i<els.length→fp P g (xs i::caps) (.bool (p i)))(hl:els.length≤2^50):jd P (ays n agg) (kf [.tmp 4] (.int .i64 (ym p els.length))) (start [.dt n els,.mb g caps]):=by
 simp only[ays,go_sem,aa,bc,reduceCtorEq]
 refine dq els.length (fun i s'=>s'.tmp 0= .d (.dt n els)∧s'.tmp 1= .d (.mb g caps)∧s'.tmp 7= .d (.int .i64 els.length)∧s'.tmp 8= .d (.int .i64 i)∧∀i',i'<i→p i'=false) ?_ ?_
 ·simp only[go_sem,aa,reduceCtorEq]
  try simp
 ·rintro i s' hi ⟨f0,f1,f7,f8,hI⟩
  by_cases iy:(i:Int)<els.length
  ·have cj:i<els.length:=by omega
   have wi:=br ((i:Int)+1) (by omega) (by omega)
   obtain⟨e,he⟩:∃e,els[i]? =some e:=⟨_,ao cj⟩;obtain⟨h1,h2⟩:=hx i e he;have h3:=h2;rw[←anj h1]at h3;simp only[mkd]at h3
   have hle:n≤e.length:=by omega
   simp only[go_sem,aa,bc,reduceCtorEq,f0,f1,f7,f8,iy,he,toNat_cast,aj,hle,h3];refine a2j (hp i cj) ?_;cases c1:p i
   ·simp only[go_sem,aa,bc,reduceCtorEq,f0,f1,f7,f8,wi,cj]
    exact⟨by simp,og hI c1⟩
   ·simp only[go_sem,aa,bc]
    rw[R3 cj c1 hI]
  ·have:i=els.length:=by omega
   subst this;simp only[go_sem,aa,bc,reduceCtorEq,f7,f8,iy];rw[Mq hI]
theorem a7d{f:Nat}{x y:D}{k:Int}(h:fp P f [x,y] (.int .i64 k)):jd P (aA4 f) (kf [.tmp 4] (.bool (decide (k≥0)))) (start [x,y]):=by
 simp only[aA4,go_sem,aa,reduceCtorEq];refine gf h ?_;simp only[go_sem,aa,reduceCtorEq]
theorem amb{l:List Vl}{g:Nat}{caps:List D}{p:Nat→Bool}(hp:∀i (h:i<l.length),fp P g (.agg (Cn l[i])::caps) (.bool (p i)))(hl:l.length≤2^50):
  fp P A.nr [ua l,.mb g caps] (.int .i64 (ym p l.length)):=by
 have:=a0i (P:=P) (n:=3) (agg:=true) (els:=l.map Cn) (xs:=fun i=> .agg (Cn (l.getD i v0))) (g:=g) (caps:=caps) (p:=p) (fun i e he=>by
  simp only[bp,ak]at he;obtain⟨v,hv,rfl⟩:=he
  simp[Cn,mkd,bn,hv]) (fun i hi=>by
   have Dx:i<l.length:=by simpa using hi
   have e:l.getD i v0=l[i]:=by simp[bn,Dx]
   rw[e];exact hp i Dx) (by simpa using hl)
 rw[ae]at this
 exact cy A.mo A.Hr (by simp) this
theorem amh{l:List Vl}{g:Nat}{caps:List D}{p:Nat→Bool}(hp:∀i (h:i<l.length),fp P g (.agg (Cn l[i])::caps) (.bool (p i)))(hl:l.length≤2^50):
  fp P A.kq [ua l,.mb g caps] (.bool ((cq l.length).any p)):=by
 rw[←Ow]
 exact cy A.mo A.Fj (by simp) (a7d (amb A hp hl))
theorem aa3{l:List Nd}{g:Nat}{caps:List D}{p:Nat→Bool}(hp:∀i (h:i<l.length),fp P g (.agg (xe l[i])::caps) (.bool (p i)))(hl:l.length≤2^50):
  fp P A.gr [jj l,.mb g caps] (.int .i64 (ym p l.length)):=by
 have:=a0i (P:=P) (n:=5) (agg:=true) (els:=l.map xe) (xs:=fun i=> .agg (xe (l.getD i n0))) (g:=g) (caps:=caps) (p:=p) (fun i e he=>by
  simp only[bp,ak]at he;obtain⟨v,hv,rfl⟩:=he
  simp[xe,mkd,bn,hv]) (fun i hi=>by
   have Dx:i<l.length:=by simpa using hi
   have e:l.getD i n0=l[i]:=by simp[bn,Dx]
   rw[e];exact hp i Dx) (by simpa using hl)
 rw[ae]at this
 exact cy A.mo A.Ic (by simp) this
theorem amc{l:List Pm}{g:Nat}{caps:List D}{p:Nat→Bool}(hp:∀i (h:i<l.length),fp P g (.agg (pn l[i])::caps) (.bool (p i)))(hl:l.length≤2^50):
  fp P A.ll [ix l,.mb g caps] (.int .i64 (ym p l.length)):=by
 have:=a0i (P:=P) (n:=2) (agg:=true) (els:=l.map pn) (xs:=fun i=> .agg (pn (l.getD i ⟨⟨#[]⟩,0⟩))) (g:=g) (caps:=caps) (p:=p) (fun i e he=>by
  simp only[bp,ak]at he;obtain⟨v,hv,rfl⟩:=he
  simp[pn,mkd,bn,hv]) (fun i hi=>by
   have Dx:i<l.length:=by simpa using hi
   have e:l.getD i ⟨⟨#[]⟩,0⟩=l[i]:=by simp[bn,Dx]
   rw[e];exact hp i Dx) (by simpa using hl)
 rw[ae]at this
 exact cy A.mo A.Hs (by simp) this
theorem aa2{l:List Sp}{g:Nat}{caps:List D}{p:Nat→Bool}(hp:∀i (h:i<l.length),fp P g (.agg (zm l[i])::caps) (.bool (p i)))(hl:l.length≤2^50):
  fp P A.j7 [se l,.mb g caps] (.int .i64 (ym p l.length)):=by
 have:=a0i (P:=P) (n:=2) (agg:=true) (els:=l.map zm) (xs:=fun i=> .agg (zm (l.getD i (0,0)))) (g:=g) (caps:=caps) (p:=p) (fun i e he=>by
  simp only[bp,ak]at he;obtain⟨v,hv,rfl⟩:=he
  simp[zm,mkd,bn,hv]) (fun i hi=>by
   have Dx:i<l.length:=by simpa using hi
   have e:l.getD i (0,0)=l[i]:=by simp[bn,Dx]
   rw[e];exact hp i Dx) (by simpa using hl)
 rw[ae]at this
 exact cy A.mo A.Ie (by simp) this
theorem ami{l:List Sp}{g:Nat}{caps:List D}{p:Nat→Bool}(hp:∀i (h:i<l.length),fp P g (.agg (zm l[i])::caps) (.bool (p i)))(hl:l.length≤2^50):
  fp P A.l5 [se l,.mb g caps] (.bool ((cq l.length).any p)):=by
 rw[←Ow]
 exact cy A.mo A.Gd (by simp) (a7d (aa2 A hp hl))
theorem aiu{l:List ByteArray}{g:Nat}{caps:List D}{p:Nat→Bool}(hp:∀i (h:i<l.length),fp P g (.str l[i]::caps) (.bool (p i)))(hl:l.length≤2^50):
  fp P A.rj [ma l,.mb g caps] (.int .i64 (ym p l.length)):=by
 have:=a0i (P:=P) (n:=1) (agg:=false) (els:=l.map sv) (xs:=fun i=> .str (l.getD i ⟨#[]⟩)) (g:=g) (caps:=caps) (p:=p) (fun i e he=>by
  simp only[bp,ak]at he;obtain⟨v,hv,rfl⟩:=he
  simp[sv,mkd,bn,hv]) (fun i hi=>by
   have Dx:i<l.length:=by simpa using hi
   have e:l.getD i ⟨#[]⟩=l[i]:=by simp[bn,Dx]
   rw[e];exact hp i Dx) (by simpa using hl)
 rw[ae]at this
 exact cy A.mo A.Md (by simp) this
theorem a4z{l:List ByteArray}{g:Nat}{caps:List D}{p:Nat→Bool}(hp:∀i (h:i<l.length),fp P g (.str l[i]::caps) (.bool (p i)))(hl:l.length≤2^50):
  fp P A.j8 [ma l,.mb g caps] (.bool ((cq l.length).any p)):=by
 rw[←Ow]
 exact cy A.mo A.Kk (by simp) (a7d (aiu A hp hl))
theorem aa1(l:List ByteArray)(x:ByteArray)(hl:l.length≤2^50):fp P A.wv [ma l,.str x] (.int .i64 (ym (fun i=>jh x (l.getD i ⟨#[]⟩)) l.length)):=by
 refine cy A.mo A.Q7 (by simp) ?_
 show jd P D8 (kf _ _) _;simp only[D8,ma,go_sem,aa,bc,reduceCtorEq]
 refine dq l.length (fun i s'=>s'.tmp 0= .d (.dt 1 (l.map sv))∧s'.tmp 1= .d (.str x)∧s'.tmp 7= .d (.int .i64 l.length)∧s'.tmp 8= .d (.int .i64 i)∧∀i',i'<i→jh x (l.getD i' ⟨#[]⟩)=false) ?_ ?_
 ·simp only[go_sem,aa,reduceCtorEq,ae]
  try simp
 ·rintro i s' hi ⟨f0,f1,f7,f8,hI⟩
  by_cases iy:(i:Int)<l.length
  ·have cj:i<l.length:=by omega
   have wi:=br ((i:Int)+1) (by omega) (by omega)
   cases c1:jh x (l.getD i ⟨#[]⟩)
   ·have c1':=c1
    unfold jh at c1';simp only[go_sem,aa,bc,reduceCtorEq,f0,f1,f7,f8,iy,Fp cj,toNat_cast,aj,c1',wi,cj]
    exact⟨by simp,og hI c1⟩
   ·have c1':=c1
    unfold jh at c1';simp only[go_sem,aa,bc,reduceCtorEq,f0,f1,f7,f8,iy,Fp cj,toNat_cast,aj,c1']
    rw[R3 (p:=fun i=>jh x (l.getD i ⟨#[]⟩)) cj c1 hI]
  ·have:i=l.length:=by omega
   subst this;simp only[go_sem,aa,bc,reduceCtorEq,f7,f8,iy]
   rw[Mq (p:=fun i=>jh x (l.getD i ⟨#[]⟩)) hI]
theorem aev(l:List ByteArray)(x:ByteArray):(cq l.length).any (fun i=>jh x (l.getD i ⟨#[]⟩))=hasB l x:=by
 unfold hasB;rw[Q4,Dh,Dh];constructor
 ·rintro⟨i,hi,h⟩
  have hi:=du.1 hi;refine⟨l[i],bz hi,?_⟩;simp only[bn,ao hi,j3]at h;unfold jh at h⊢;rw[beq_iff_eq]at h⊢;exact h.symm
 ·rintro⟨y,hy,h⟩
  obtain⟨i,hi,rfl⟩:=Ro hy;refine⟨i,du.2 hi,?_⟩;simp only[bn,ao hi,j3];unfold jh at h⊢;rw[beq_iff_eq]at h⊢;exact h.symm
theorem Qh(l:List ByteArray)(x:ByteArray)(hl:l.length≤2^50):fp P A.k9 [ma l,.str x] (.bool (hasB l x)):=by
 rw[←aev,←Ow]
 exact cy A.mo A.Nx (by simp) (a7d (aa1 A l x hl))
end
theorem toList_eq(s:ByteArray):s.toList=s.data.toList:=ByteArray.toList_eq s
theorem ahk(a b:ByteArray):(a==b)=jh a b:=by
 unfold jh;rw[toList_eq,toList_eq];have:(a==b)=(a.data==b.data):=rfl;rw[this,Q4,beq_iff_eq,beq_iff_eq]
 exact⟨fun h=>by rw[h],fun h=>by
  have:=congrArg List.toArray h
  simpa using this⟩
theorem a6q{a b:ByteArray}(h:jh a b=true):a=b:=by
 unfold jh at h;rw[beq_iff_eq,toList_eq,toList_eq]at h;have h':=congrArg List.toArray h;simp only[Array.toArray_toList]at h';cases a;cases b
 simp_all
def a7r{P:Program}(A:Pr P):List D:=[.str ⟨#[98,111,120]⟩,.int .i64 0,.int .i64 6,.mb A.B4 [],
 .str ⟨#[112,114,105,115,109]⟩,.int .i64 0,.int .i64 2,.mb A.B3 [],.str ⟨#[115,108,97,110,116]⟩,.int .i64 0,.int .i64 4,.mb A.Az [],
 .str ⟨#[112,121,114,97,109,105,100]⟩,.int .i64 0,.int .i64 4,.mb A.Ay [],.str ⟨#[117,110,105,111,110]⟩,.int .i64 2,.int .i64 0,.mb A.Ax [],
 .str ⟨#[105,110,116,101,114,115,101,99,116]⟩,.int .i64 2,.int .i64 0,.mb A.Aw [],.str ⟨#[115,117,98,116,114,97,99,116]⟩,.int .i64 2,.int .i64 0,.mb A.Av [],
 .str ⟨#[99,108,105,112]⟩,.int .i64 1,.int .i64 4,.mb A.Ee [],.str ⟨#[115,104,105,102,116]⟩,.int .i64 1,.int .i64 3,.mb A.Au [],
 .str ⟨#[115,121,109,109,101,116,114,121]⟩,.int .i64 1,.int .i64 1,.mb A.As [],.str ⟨#[115,99,97,108,101]⟩,.int .i64 1,.int .i64 2,.mb A.A7 [],
 .str ⟨#[115,117,109]⟩,.int .i64 1,.int .i64 6,.mb A.A6 [],.str ⟨#[99,111,114,101]⟩,.int .i64 1,.int .i64 6,.mb A.A0 [],
 .str ⟨#[114,101,112,101,97,116]⟩,.int .i64 1,.int .i64 4,.mb A.C2 []]
theorem a5h{P:Program}(A:Pr P){k:Nat}(h:k<14):∃n c,((a7r A).drop (k*4)).take 4=[.str n,.int .i64 (kIn k),.int .i64 (G9 k),c]:=by
 match k,h with
 |0,_|1,_|2,_|3,_|4,_|5,_|6,_|7,_|8,_|9,_|10,_|11,_|12,_|13,_=>exact⟨_,_,rfl⟩
 |n+14,h=>omega
theorem Wv{P:Program}(A:Pr P):(a7r A).length=56:=rfl
def J5{P:Program}(A:Pr P)(pr:List (List Sp)→Bool):Prop:=
 ∀ls:List (List Sp),ls.length≤2^30→(∀l∈ls,l.length≤2^30)→fp P A.Aj [.agg [jv ls]] (.int .i64 (if pr ls then 0 else 170))
section
variable{P:Program}(A:Pr P)
theorem Sw(l:List Pm):fp P A.lr [ix l] (.int .i64 (if Aa l then 0 else 1)):=by
 refine cy A.mo A.Qb (by simp) ?_
 show jd P (A9 A.j5 A.ou) (kf _ _) _;unfold Aa;by_cases h1:(20:Int)<l.length
 ·have h1':¬l.length≤20:=by omega
  simp only[A9,ix,go_sem,aa,reduceCtorEq,ae,h1,h1',cz]
 ·have h1':l.length≤20:=by omega
  simp only[A9,ix,go_sem,aa,reduceCtorEq,ae,h1,h1']
  refine dq l.length (fun k s'=>s'.base=0∧s'.tmp 0= .d (.dt 2 (l.map pn))∧s'.tmp 8= .d (.dt 2 (l.map pn))∧s'.tmp 9= .d (.int .i64 l.length)∧s'.tmp 10= .d (.int .i64 k)∧∀i,i<k→a7e l i=true) ?_ ?_
  ·simp only[go_sem,aa,reduceCtorEq]
   try simp
  ·rintro k s' hk ⟨eb,e0,e8,e9,e10,ha⟩
   by_cases iy:(k:Int)<l.length
   ·have cj:k<l.length:=by omega
    have hg:(l.map pn)[k]? =some [.str l[k].n,.int .i64 l[k].v]:=by simp[cj,pn]
    have wk:=br ((k:Int)+1) (by omega) (by omega)
    have hp:a7e l k=(uu l[k].n&&(Nu l[k].v&&ui (l.map Pm.n) k)):=by unfold a7e;simp[cj]
    simp only[go_sem,aa,ab,ag,reduceCtorEq,eb,e8,e9,e10,iy,toNat_cast,hg,aj];refine ee (Up A _) ?_;cases q1:uu l[k].n
    ·simp only[go_sem,aa]
     rw[all_false cj (by rw[hp,q1];rfl)];rfl
    ·simp only[go_sem,aa,ab]
     refine ee (a09 A _) ?_;cases q2:Nu l[k].v
     ·simp only[go_sem,aa]
      rw[all_false cj (by rw[hp,q1,q2];rfl)];rfl
     ·by_cases q3:(0:Int)<k
      ·have hg':(l.map pn)[k-1]? =some [.str l[k-1].n,.int .i64 l[k-1].v]:=by
        have:k-1<l.length:=by omega
        simp[this,pn]
       have w1:=br ((k:Int)-1) (by omega) (by omega)
       have z:(0:Int)≤(k:Int)-1:=by omega
       have hr:ui (l.map Pm.n) k=strLt l[k-1].n l[k].n:=by
        unfold ui
        have h0:k≠0:=by omega
        have:k-1<l.length:=by omega
        simp[h0,this,cj]
       cases q4:strLt l[k-1].n l[k].n
       ·have q4':=q4
        unfold strLt at q4';simp only[go_sem,aa,ab,ag,reduceCtorEq,e0,q3,w1,Gm q3,hg',z,q4']
        rw[all_false cj (by rw[hp,q1,q2,hr,q4];rfl)];rfl
       ·have q4':=q4
        unfold strLt at q4';simp only[go_sem,aa,ab,ag,reduceCtorEq,e0,e8,e9,e10,q3,w1,Gm q3,hg',z,q4',wk]
        exact⟨cj,by simp,og ha (by rw[hp,q1,q2,hr,q4];rfl)⟩
      ·simp only[go_sem,aa,reduceCtorEq,e0,e8,e9,e10,q3,wk]
       exact⟨cj,by simp,og ha (by rw[hp,q1,q2];unfold ui;simp;omega)⟩
   ·simp only[go_sem,aa,reduceCtorEq,eb,e9,e10,iy]
    rw[all_true fun i hi=>ha i (by omega)];rfl
theorem a3c(v:Vl):fp P A.sl [.agg (Cn v)] (.bool (Iq v)):=by
 refine cy A.mo A.Qa (by simp) ?_
 show jd P (Db A.ou A.j5) (kf _ _) _;unfold Iq;simp only[Db,Cn,go_sem,aa,ab,ag];refine ee (a09 A _) ?_;cases h1:Nu v.t
 ·simp only[go_sem,aa,cz]
 ·simp only[go_sem,aa,ab]
  refine ee (a09 A _) ?_;cases h2:Nu v.a
  ·simp only[go_sem,aa,cz]
  ·simp only[go_sem,aa,ab,ag]
   refine ee (Up A _) ?_;cases h3:uu v.n
   ·cases h4:isE v.n
    ·simp only[isE]at h4
     simp only[go_sem,aa,ab,ag,h4,cz,Sq]
    ·simp only[isE]at h4
     simp only[go_sem,aa,ab,ag,reduceCtorEq,h4,Mz]
   ·simp only[go_sem,aa,Jh]
theorem aiy(v:Vl):fp P A.uy [.agg (Cn v)] (.bool !(Iq v)):=by
 refine cy A.mo A.Vh (by simp) ?_
 show jd P (Hg A.sl) (kf _ _) _;have h:=a3c A v;simp only[Cn]at h;simp only[Hg,Cn,go_sem,aa,ab];refine ee h ?_;simp only[go_sem,aa]
theorem a6v:fp P A.mj [] (.agg (a7r A)):=by
 refine cy A.mo A.Ze (by simp) ?_
 show jd P (Kf A.B4 A.B3 A.Az A.Ay A.Ax A.Aw A.Av A.Ee A.Au A.As A.A7 A.A6 A.A0 A.C2) (kf _ _) _;simp only[Kf,go_sem,aa,ab,ag,reduceCtorEq,a7r]
theorem agh(k:Int):fp P A.mf [.int .i64 k] (.bool (decide (0≤k∧k<14))):=by
 refine cy A.mo A.Qz (by simp) ?_
 show jd P (Ar A.mj) (kf _ _) _;by_cases h1:0≤k
 ·simp only[Ar,go_sem,aa,reduceCtorEq,h1]
  refine Dg (a6v A) ?_;simp only[go_sem,aa,reduceCtorEq]
 ·simp only[Ar,go_sem,aa,reduceCtorEq,h1,false_and]
theorem ait(k:Int):fp P A.zi [.int .i64 k] (.yi [.int .i64 (if 0≤k∧k<14 then kIn k.toNat else 0),.int .i64 (if 0≤k∧k<14 then 0 else 1)]):=by
 refine cy A.mo A.Xb (by simp) ?_
 show jd P (Iw A.mf A.mj) (kf _ _) _;simp only[Iw,go_sem,aa,reduceCtorEq];refine ee (agh A k) ?_;by_cases h:0≤k∧k<14
 ·have hk:k.toNat<14:=by omega
  obtain⟨n,c,e⟩:=a5h A hk
  have h4:k.toNat*4+4≤56:=by omega
  simp only[go_sem,aa,h];refine Dg (a6v A) ?_;simp only[go_sem,aa,ab,ag,reduceCtorEq,h.1,h.2,Wv,h4,e]
 ·simp only[go_sem,aa,h]
theorem amj{pr:List (List Sp)→Bool}(hpr:J5 A pr)(f:Ft)(hv:f.vs.length≤2^30)(h1:f.ls.length≤2^30)(h2:∀l∈f.ls,l.length≤2^30):fp P A.Al [.agg (cFt f)] (.int .i64 (if u9 pr f then 0 else 220)):=by
 refine cy A.mo A.Zf (by simp) ?_
 show jd P (Kg A.mf A.mj A.kq A.uy A.Aj) (kf _ _) _;have hp:=hpr f.ls h1 h2
 have hc:=amh A (l:=f.vs) (g:=A.uy) (caps:=[]) (p:=fun i=> !(Iq (f.vs.getD i v0))) (fun i hi=>by
  have e:f.vs.getD i v0=f.vs[i]:=by simp[bn,hi]
  rw[e];exact aiy A _) (by omega)
 have a3k:((cq f.vs.length).any fun i=> !(Iq (f.vs.getD i v0)))= !(a4m f.vs):=by
  unfold a4m;rw[acz]
  try simp
 rw[a3k]at hc;simp only[ua]at hc;simp only[jv]at hp;unfold u9;simp only[Kg,cFt,ua,jv,go_sem,aa,ab,ag];refine ee (agh A f.k) ?_;by_cases hk:0≤f.k∧f.k<14
 ·have hkn:f.k.toNat<14:=by omega
  obtain⟨n,c,e⟩:=a5h A hkn
  have h4:f.k.toNat*4+4≤56:=by omega
  simp only[go_sem,aa,ab,ag,hk,ae];refine Dg (a6v A) ?_;by_cases c1:(f.vs.length:Int)=G9 f.k.toNat
  ·have c1':((f.vs.length:Int) !=G9 f.k.toNat)=false:=by simp[c1]
   have ax6:((f.vs.length:Int)==G9 f.k.toNat)=true:=by simp[c1]
   simp only[go_sem,aa,ab,ag,reduceCtorEq,hk.1,hk.2,Wv,h4,e,c1',ax6];refine gf hc ?_;cases c2:a4m f.vs
   ·simp only[go_sem,aa,cz]
   ·have hh:∀b:Bool,(f.k==1)=b→(f.k=1↔b=true):=fun b hb=>by rw[←hb];simp
    unfold a0z;cases p1:f.k==1
    ·cases p2:f.k==2
     ·cases p3:f.k==3
      ·by_cases c3:(0:Int)<f.ls.length
       ·have c3':((f.ls.length:Int)==0)=false:=beq_eq_false_iff_ne.2 (by omega)
        simp only[go_sem,aa,ab,ag,reduceCtorEq,p1,p2,p3,ae,c3,c3',Sq]
       ·have c3':((f.ls.length:Int)==0)=true:=beq_iff_eq.2 (by omega)
        simp only[go_sem,aa,ab,ag,reduceCtorEq,p1,p2,p3,ae,c3,c3',Sq]
      ·simp only[go_sem,aa,ab,ag,reduceCtorEq,p1,p2,p3,aF0]
       refine ee hp ?_;cases c3:pr f.ls<;>simp only[go_sem,aa,je,reduceCtorEq]
     ·simp only[go_sem,aa,ab,ag,reduceCtorEq,p1,p2,aF0,Jh]
      refine ee hp ?_;cases c3:pr f.ls<;>simp only[go_sem,aa,je,reduceCtorEq]
    ·simp only[go_sem,aa,ab,ag,reduceCtorEq,p1,Jh]
     refine ee hp ?_;cases c3:pr f.ls<;>simp only[go_sem,aa,je,reduceCtorEq]
  ·have c1':((f.vs.length:Int) !=G9 f.k.toNat)=true:=by simp[c1]
   have ax6:((f.vs.length:Int)==G9 f.k.toNat)=false:=by simp[c1]
   simp only[go_sem,aa,ab,ag,reduceCtorEq,hk.1,hk.2,Wv,h4,e,c1',ax6,cz]
 ·simp only[go_sem,aa,hk,cz]
theorem aqm{pr:List (List Sp)→Bool}(hpr:J5 A pr)(f:Ft)(l:List Pm)(hv:f.vs.length≤2^30)(h1:f.ls.length≤2^30)(h2:∀l∈f.ls,l.length≤2^30):
  fp P A.Ak [.agg (cFt f),ix l] (.int .i64 (if u9 pr f then(if Aa l then 0 else 1)else 220)):=by
 refine cy A.mo A.Zd (by simp) ?_
 show jd P (Ke A.Al A.lr) (kf _ _) _;have hc:=amj A hpr f hv h1 h2;have hp:=Sw A l;simp only[cFt,ua,jv]at hc;simp only[ix]at hp;simp only[Ke,cFt,ua,jv,ix,go_sem,aa,ab];refine ee hc ?_;cases c1:u9 pr f
 ·simp only[go_sem,aa,je,reduceCtorEq]
 ·simp only[go_sem,aa,je,reduceCtorEq]
  refine ee hp ?_;simp only[go_sem,aa]
end
def Wi(n:ByteArray)(v:Int):List (ByteArray×Int)→List (ByteArray×Int)
 |[]=>[(n,v)]
 |(a,b)::r=>if jh n a then(n,v)::r else(a,b)::Wi n v r
def Sj(n:ByteArray):List (ByteArray×Int)→Option Int
 |[]=>none
 |(a,b)::r=>if jh n a then some b else Sj n r
def cE(e:ByteArray×Int):D×C:=(.str e.1,.d (.int .i64 e.2))
def Nv(l:List Pm):List (ByteArray×Int):=l.foldl (fun es p=>Wi p.n p.v es) []
theorem Pb(a b:ByteArray):jh a b=jh b a:=by
 unfold jh;rw[Q4,beq_iff_eq,beq_iff_eq];exact⟨Eq.symm,Eq.symm⟩
theorem Xw{a b:ByteArray}(c:ByteArray)(h:jh a b=true):jh a c=jh b c:=by rw[a6q h]
theorem avr(n:ByteArray)(v:Int)(es:List (ByteArray×Int)):Kh (.one .str) (.str n) (C.d (.int .i64 v)) (es.map cE)=some ((Wi n v es).map cE):=by
 induction es with
 |nil=>rfl
 |cons e r ih=>
  obtain⟨a,b⟩:=e;simp only[cu,Wi]
  show(match Cs (.one .str) (.str n) (.str a)with|some true=>_|some false=>_|none=>_)=_
  have:Cs (.one .str) (.str n) (.str a)=some (jh n a):=by show some (n==a)=_;rw[ahk]
  rw[this];cases jh n a
  ·simp only[ih,gz,ec,if_false,cu];rfl
  ·simp only[if_true,cu];rfl
theorem asg(n:ByteArray)(es:List (ByteArray×Int)):Fi (.one .str) (.str n) (es.map cE)=some ((Sj n es).map fun x=>C.d (.int .i64 x)):=by
 induction es with
 |nil=>rfl
 |cons e r ih=>
  obtain⟨a,b⟩:=e;simp only[cu,Sj]
  show(match Cs (.one .str) (.str n) (.str a)with|some true=>_|some false=>_|none=>_)=_
  have:Cs (.one .str) (.str n) (.str a)=some (jh n a):=by show some (n==a)=_;rw[ahk]
  rw[this];cases jh n a
  ·simp only[ih,ec,if_false]
  ·simp only[if_true];rfl
theorem atc(n m:ByteArray)(v:Int)(es:List (ByteArray×Int)):Sj n (Wi m v es)=if jh n m then some v else Sj n es:=by
 induction es with
 |nil=>simp[Wi,Sj]
 |cons e r ih=>
  obtain⟨a,b⟩:=e;simp only[Wi];cases h:jh m a
  ·simp only[ec,if_false,Sj,ih]
   cases h2:jh n a
   ·simp
   ·have:jh n m=false:=by rw[Xw m h2,Pb,h]
    simp[this]
  ·simp only[if_true,Sj]
   cases h2:jh n m
   ·have:jh n a=false:=by rw[Pb,←Xw n h,Pb,h2]
    simp[this]
   ·simp
theorem ae9(v:Vl)(l:List Pm):nq v l=match Sj v.n (Nv l)with|some x=>(v.t*x+v.a,true)|none=>(v.a,isE v.n):=by
 have:∀r:List Pm,nq v r.reverse=match Sj v.n (Nv r.reverse)with|some x=>(v.t*x+v.a,true)|none=>(v.a,isE v.n):=by
  intro r
  induction r with
  |nil=>rfl
  |cons p r ih=>
   have e1:nq v (r.reverse++[p])=Mj v (nq v r.reverse) p:=by unfold nq;rw[pw];rfl
   have e2:Nv (r.reverse++[p])=Wi p.n p.v (Nv r.reverse):=by unfold Nv;rw[pw];rfl
   rw[qm,e1,e2,atc,ih];unfold Mj;rw[Pb p.n v.n];cases jh v.n p.n
   ·simp
   ·simp
 have h:=this l.reverse
 rwa[Cp]at h
theorem ajk{l:List Pm}{k:Nat}(h:k<l.length):Nv (l.take (k+1))=Wi l[k].n l[k].v (Nv (l.take k)):=by
 unfold Nv;rw[ey,pw];simp[h]
theorem abk{n:ByteArray}:∀{es:List (ByteArray×Int)} {x:Int},Sj n es=some x→∃a,(a,x)∈es∧jh n a=true:=by
 intro es
 induction es with
 |nil=>intro x h;cases h
 |cons e r ih=>
  intro x h;obtain⟨a,b⟩:=e;simp only[Sj]at h;split at h
  ·rename_i hs;cases h;exact⟨a,by simp,hs⟩
  ·obtain⟨a',h1,h2⟩:=ih h;exact⟨a',by simp[h1],h2⟩
theorem amw{n:ByteArray}{v:Int}:∀{es:List (ByteArray×Int)} {e:ByteArray×Int},e∈Wi n v es→e=(n,v)∨e∈es:=by
 intro es
 induction es with
 |nil=>intro e h;simp[Wi]at h;exact .inl h
 |cons x r ih=>
  intro e h;obtain⟨a,b⟩:=x;simp only[Wi]at h;split at h
  ·rcases dn.1 h with h|h
   ·exact .inl h
   ·exact .inr (by simp[h])
  ·rcases dn.1 h with h|h
   ·exact .inr (by simp[h])
   ·rcases ih h with h|h
    ·exact .inl h
    ·exact .inr (by simp[h])
theorem aau(l:List Pm):∀e∈Nv l,∃p∈l,e=(p.n,p.v):=by
 have:∀r:List Pm,∀e∈Nv r.reverse,∃p∈r,e=(p.n,p.v):=by
  intro r
  induction r with
  |nil=>intro e h;simp[Nv]at h
  |cons p r ih=>
   intro e h
   have e2:Nv (r.reverse++[p])=Wi p.n p.v (Nv r.reverse):=by unfold Nv;rw[pw];rfl
   rw[qm,e2]at h;rcases amw h with h|h
   ·exact⟨p,by simp,h⟩
   ·obtain⟨q,hq,he⟩:=ih e h;exact⟨q,by simp[hq],he⟩
 intro e he
 have h:=this l.reverse e (by rw[Cp];exact he)
 obtain⟨p,hp,hh⟩:=h
 exact⟨p,by simpa using hp,hh⟩
theorem Sy{l:List Pm}(h:Aa l=true):∀p∈l,uu p.n=true∧Nu p.v=true:=by
 unfold Aa at h;simp only[cd,decide_eq_true_eq]at h;intro p hp;obtain⟨i,hi,rfl⟩:=fj.1 hp;have:=ck.1 h.2 i (du.2 hi);unfold a7e at this;simp only[ao hi,cd]at this;exact⟨this.1,this.2.1⟩
theorem aat{n:ByteArray}(h:uu n=true):isE n=false:=by
 cases he:isE n
 ·rfl
 ·have:jh n ⟨#[]⟩=true:=he
  have:=a6q this;subst this
  have h0:uu ⟨#[]⟩=false:=by decide+kernel
  rw[h0]at h;cases h
theorem ak3{l:List Pm}(h:Aa l=true){n:ByteArray}(he:isE n=true):Sj n (Nv l)=none:=by
 cases hg:Sj n (Nv l)with
 |none=>rfl
 |some x=>
  obtain⟨a,h1,h2⟩:=abk hg;obtain⟨p,hp,e⟩:=aau l _ h1;have h3:=aat (Sy h p hp).1;cases e
  have:isE n=isE p.n:=by rw[a6q h2]
  rw[this,h3]at he;cases he
section
variable{P:Program}(A:Pr P)
theorem adk{pr:List (List Sp)→Bool}(f:Ft)(l:List Pm)(c1:u9 pr f=true)(c2:Aa l=true):fp P A.xt [.agg (cFt f),ix l] (.yi [if(ur pr f l).1.map Bj=[]then .bd else .dt 1 ((ur pr f l).1.map Bj),.int .i64 (ur pr f l).2]):=by
 refine cy A.mo A.Vf (by simp) ?_
 show jd P He (kf _ _) _
 have hN:ur pr f l=if f.vs.all (fun v=>(nq v l).2)then(f.vs.map fun v=>(nq v l).1,0)else([],4):=by
  unfold ur
  rw[if_neg (by rw[c1];simp),if_neg (by rw[c2];simp)]
 rw[hN];have hfl:=a5q c1;obtain⟨hpl,hpv⟩:=Uu c2;simp only[He,cFt,ua,jv,ix,go_sem,aa,ab]
 refine rv (fun s'=>s'.base=0∧s'.tmp 2= .dv 2 (s'.ver 2) 0∧s'.bm 2=some (.loc [.d (.int .i64 f.k),.d (.dt 3 (f.vs.map Cn)),.d (.dt 1 (f.ls.map fun l=>[se l]))])∧s'.tmp 6= .ku 14 (s'.ver 14)∧s'.mp 14=some ((Nv l).map cE)) ?_ ?_
 ·refine dq l.length (fun k s'=>s'.base=0∧s'.tmp 2= .dv 2 (s'.ver 2) 0∧s'.bm 2=some (.loc [.d (.int .i64 f.k),.d (.dt 3 (f.vs.map Cn)),.d (.dt 1 (f.ls.map fun l=>[se l]))])∧s'.tmp 6= .ku 14 (s'.ver 14)∧s'.mp 14=some ((Nv (l.take k)).map cE)∧
   s'.tmp 15= .d (.dt 2 (l.map pn))∧s'.tmp 16= .d (.int .i64 l.length)∧s'.tmp 17= .d (.int .i64 k)) ?_ ?_
  ·simp only[go_sem,aa,ae]
   rfl
  ·rintro k s' hk ⟨eb,f2,b2,f6,m6,f15,f16,f17⟩
   by_cases iy:(k:Int)<l.length
   ·have cj:k<l.length:=by omega
    have wk:=br ((k:Int)+1) (by omega) (by omega)
    have hm:=ajk cj;simp only[go_sem,aa,ab,ag,reduceCtorEq,eb,f2,b2,f6,m6,f15,f16,f17,iy,Vs cj,toNat_cast,aj,PS.ents,avr,wk,cj,hm]
    try simp
   ·have:k=l.length:=by omega
    subst this;rw[eo]at m6;simp only[go_sem,aa,reduceCtorEq,eb,f2,b2,f6,m6,f16,f17,iy]
 ·rintro s' ⟨eb,f2,b2,f6,m6⟩
  simp only[go_sem,aa,ab,ag,eb,f2,b2]
  refine dq f.vs.length (fun i s'=>s'.base=0∧s'.tmp 2= .dv 2 (s'.ver 2) 0∧s'.bm 2=some (.loc [.d (.int .i64 f.k),.d (.dt 3 (f.vs.map Cn)),.d (.dt 1 (f.ls.map fun l=>[se l]))])∧s'.tmp 6= .ku 14 (s'.ver 14)∧s'.mp 14=some ((Nv l).map cE)∧
   s'.tmp 28= .d (.dt 3 (f.vs.map Cn))∧s'.tmp 29= .d (.int .i64 f.vs.length)∧s'.tmp 30= .d (.int .i64 i)∧
   uc s' 60 1 (((f.vs.take i).map fun v=>(nq v l).1).map Bj) (s'.tmp 9)∧∀i',i'<i→(nq (f.vs.getD i' v0) l).2=true) ?_ ?_
  ·simp only[go_sem,aa,f2,b2,f6,m6,ae]
   exact⟨uc.nil,by simp⟩
  ·clear eb f2 b2 f6 m6
   rintro i s' hi ⟨eb,f2,b2,f6,m6,f28,f29,f30,acc,hI⟩;by_cases iy:(i:Int)<f.vs.length
   ·have cj:i<f.vs.length:=by omega
    have wi:=br ((i:Int)+1) (by omega) (by omega)
    have hvi:=a1q c1 i cj
    have hgi:f.vs.getD i v0=f.vs[i]:=by simp[bn,cj]
    have hg:=S6 cj;obtain⟨⟨t1,t2⟩,a1,a2⟩:=a9h hvi;have hna:=ae9 (f.vs.getD i v0) l
    have hge:=fun h=>ak3 c2 (n:=(f.vs.getD i v0).n) h
    have aCi:∀x,Sj (f.vs.getD i v0).n (Nv l)=some x→-1000000≤x∧x≤1000000:=fun x hx=>by
     obtain⟨a,h1,_⟩:=abk hx;obtain⟨p,hp,e⟩:=aau l _ h1;cases e;exact a7h (Sy c2 p hp).2
    have at9:(nq (f.vs.getD i v0) l).2=false→f.vs.all (fun v=>(nq v l).2)=false:=fun h=>by
     rw[Zj]
     exact⟨f.vs[i],bz cj,by rw[←hgi,h];simp⟩
    generalize hvv:f.vs.getD i v0=v at*
    simp only[go_sem,aa,ab,ag,reduceCtorEq,eb,f6,m6,f28,f29,f30,iy,hg,toNat_cast,aj,I2,PS.ents,asg]
    cases c4:Sj v.n (Nv l)with
    |some x=>
     rw[c4]at hna
     have kg:isE v.n=false:=by
      cases h:isE v.n
      ·rfl
      ·rw[hge h]at c4;cases c4
     have at2:=kg;unfold isE at at2;have m1:=awb ⟨t1,t2⟩ (x:=v.t) (y:=x) (aCi x c4)
     have w1:=br (v.t*x) (by omega) (by omega)
     have w2:=br (v.t*x+v.a) (by omega) (by omega)
     have e1:(((f.vs.take (i+1)).map fun v=>(nq v l).1).map Bj)=((f.vs.take i).map fun v=>(nq v l).1).map Bj++[Bj (v.t*x+v.a)]:=by
      rw[ey,fb,fb];simp[cj,←hgi,hna]
     simp only[go_sem,aa,ab,ag,reduceCtorEq,ca,at2,ax,w1,w2]
     refine r8 (els:=((f.vs.take i).map fun v=>(nq v l).1).map Bj) (ys:=[Bj (v.t*x+v.a)]) (osz:=some 1) ?_ ?_ rfl (by simp[Bj,D.one]) ?_ (by simp) ?_
     ·simp only[go_sem,aa]
      exact acc.mono (by simp[al]) (by simp[al])
     ·simp only[go_sem,aa,ov]
      rfl
     ·simp only[ae,bq,dh,dd]
      omega
     ·intro s3 g
      have ha2:=g.acc (by simp)
      rw[g.tmp,bh]at ha2;simp only[eh]at ha2
      have gv:=g.ver 2 (by simp)
      have aol:=g.ver 14 (by simp)
      have gb:s3.bm 2=s'.bm 2:=by rw[g.bm];simp[al]
      have gm:s3.mp 14=s'.mp 14:=by rw[g.mp]
      simp only[al,aa,reduceIte]at gv aol;simp only[go_sem,aa,reduceCtorEq,g.tmp,f2,f6,f28,f29,f30,gm,m6,g.base,gb,gv,aol,b2,e1,wi,cj]
      exact⟨by simp,ha2.mono rfl rfl,og hI (by rw[hvv,hna])⟩
    |none=>
     rw[c4]at hna;cases hE:isE v.n
     ·have hE':=hE
      unfold isE at hE';simp only[hE]at hna
      simp only[go_sem,aa,ab,ag,hE',ax,at9 (by rw[hna])]
     ·have hE':=hE
      unfold isE at hE';simp only[hE]at hna
      have az1:nq v l=(v.t*0+v.a,true):=by rw[hna];simp
      have m1:=awb ⟨t1,t2⟩ (x:=v.t) (y:=0) (by omega)
      have w1:=br (v.t*0) (by omega) (by omega)
      have w2:=br (v.t*0+v.a) (by omega) (by omega)
      have e1:(((f.vs.take (i+1)).map fun v=>(nq v l).1).map Bj)=((f.vs.take i).map fun v=>(nq v l).1).map Bj++[Bj (v.t*0+v.a)]:=by
       rw[ey,fb,fb];simp[cj,←hgi,az1]
      simp only[go_sem,aa,ab,ag,reduceCtorEq,ca,hE',ax,w1,w2]
      refine r8 (els:=((f.vs.take i).map fun v=>(nq v l).1).map Bj) (ys:=[Bj (v.t*0+v.a)]) (osz:=some 1) ?_ ?_ rfl (by simp[Bj,D.one]) ?_ (by simp) ?_
      ·simp only[go_sem,aa]
       exact acc.mono (by simp[al]) (by simp[al])
      ·simp only[go_sem,aa,ov]
       rfl
      ·simp only[ae,bq,dh,dd]
       omega
      ·intro s3 g
       have ha2:=g.acc (by simp)
       rw[g.tmp,bh]at ha2;simp only[eh]at ha2
       have gv:=g.ver 2 (by simp)
       have aol:=g.ver 14 (by simp)
       have gb:s3.bm 2=s'.bm 2:=by rw[g.bm];simp[al]
       have gm:s3.mp 14=s'.mp 14:=by rw[g.mp]
       simp only[al,aa,reduceIte]at gv aol;simp only[go_sem,aa,reduceCtorEq,g.tmp,f2,f6,f28,f29,f30,gm,m6,g.base,gb,gv,aol,b2,e1,wi,cj]
       exact⟨by simp,ha2.mono rfl rfl,og hI (by rw[hvv,az1])⟩
   ·have:i=f.vs.length:=by omega
    subst this;rw[eo]at acc
    have zx:f.vs.all (fun v=>(nq v l).2)=true:=by
     rw[ck];intro v hv;obtain⟨i,hi,rfl⟩:=fj.1 hv;have:=hI i hi;simpa[bn,hi]using this
    rw[zx];simp only[go_sem,aa,reduceCtorEq,eb,f29,f30,iy];rcases acc with ⟨a1,a2⟩|⟨a1,a2,a3⟩
    ·simp only[go_sem,a1,a2]
    ·rw[if_neg a1,a2]
     simp only[go_sem,a3,ae]
theorem adn{pr:List (List Sp)→Bool}(hpr:J5 A pr)(f:Ft)(l:List Pm)(hv:f.vs.length≤2^30)(h1:f.ls.length≤2^30)(h2:∀l∈f.ls,l.length≤2^30):fp P A.ux [.agg (cFt f),ix l] (a5u (ur pr f l)):=by
 have main:fp P A.ux [.agg (cFt f),ix l] (.yi [if(ur pr f l).1.map Bj=[]then .bd else .dt 1 ((ur pr f l).1.map Bj),.int .i64 (ur pr f l).2]):=by
  refine cy A.mo A.Vg (by simp) ?_
  show jd P (Hf A.Ak A.xt) (kf _ _) _;have hw:=aqm A hpr f l hv h1 h2
  have hn:=fun c1 c2=>adk A f l (pr:=pr) c1 c2
  simp only[cFt,ua,jv,ix]at hw hn;simp only[Hf,cFt,ua,jv,ix,go_sem,aa,ab];refine gf hw ?_;cases c1:u9 pr f
  ·have:ur pr f l=([],220):=by unfold ur;rw[if_pos c1]
   rw[this];simp only[go_sem,aa,je,reduceCtorEq]
  ·cases c2:Aa l
   ·have:ur pr f l=([],1):=by unfold ur;rw[if_neg (by rw[c1];simp),if_pos c2]
    rw[this];simp only[go_sem,aa,je,reduceCtorEq]
   ·simp only[go_sem,aa,je,ab,reduceCtorEq]
    refine gf (hn c1 c2) ?_;simp only[go_sem,aa]
 generalize ur pr f l=x at main⊢
 refine main.Qe fun G v hv=>?_
 split at hv
 ·rename_i he
  unfold a5u;rw[he];exact a9k G v hv
 ·exact hv
end
theorem Wk.tz{xs ys:List D}{o:Nat}(hl:xs.length=ys.length)(h:∀(i:Nat) (x y:D),xs[i]? =some x→ys[i]? =some y→Wk x y):Wk (.tz xs o) (.tz ys o):=by
 intro G v hv
 cases hv with
 | @tz _ b p _ k1 k2=>
  refine .tz (fun j hj=>k1 j (by omega)) fun j y u hy hu=>?_
  have hj:j<xs.length:=by have:=(aq.1 hy).1;omega
  exact h j _ y (ao hj) hy G u (k2 j _ u (ao hj) hu)
theorem Wk.mb{f:Nat}{xs ys:List D}(hl:xs.length=ys.length)(h:∀(i:Nat) (x y:D),xs[i]? =some x→ys[i]? =some y→Wk x y):Wk (.mb f xs) (.mb f ys):=by
 intro G v hv
 cases hv with
 | @mb _ _ vs k1 k2=>
  refine .mb (by omega) fun j y u hy hu=>?_
  have hj:j<xs.length:=by have:=(aq.1 hy).1;omega
  exact h j _ y (ao hj) hy G u (k2 j _ u (ao hj) hu)
theorem Wk.one{x y:D}(h:Wk x y):∀(i:Nat) (a b:D),[x][i]? =some a→[y][i]? =some b→Wk a b:=by
 intro i a b ha hb
 match i with
 |0=>simp at ha hb;subst ha hb;exact h
 |i+1=>simp at ha
def V1(ns:List Nd)(s:ByteArray):Int:=ym (fun i=>jh (ns.getD i n0).n s) ns.length
def agx(ns:List Nd)(s:ByteArray):D:=if 0≤V1 ns s then .tz (xe (ns.getD (V1 ns s).toNat n0)) 0 else .Ti
theorem aeu(ns:List Nd)(s:ByteArray):Sb ns s=decide (0≤V1 ns s):=by
 have:decide (0≤V1 ns s)=decide (V1 ns s≥0):=rfl;unfold V1 at this⊢;rw[this,Ow];unfold Sb;rw[Q4,Dh,Dh];constructor
 ·rintro⟨n,hn,h⟩
  obtain⟨i,hi,rfl⟩:=Ro hn
  exact⟨i,du.2 hi,by simpa[bn,hi]using h⟩
 ·rintro⟨i,hi,h⟩
  have hi:=du.1 hi
  exact⟨ns[i],bz hi,by simpa[bn,hi]using h⟩
def a4e(ns:List Nd)(out:List ByteArray)(i:Nat):Bool:= !hasB out (ns.getD i n0).n&&Lh (ns.getD i n0) out
def Kq(ns:List Nd)(out:List ByteArray):Int:=ym (a4e ns out) ns.length
def Mi(ns:List Nd):Nat→List ByteArray→List ByteArray
 |0,out=>out
 |k+1,out=>if Kq ns out<0 then out else Mi ns k (out++[(ns.getD (Kq ns out).toNat n0).n])
def Wn(ns:List Nd):List ByteArray:=Mi ns (ns.length+1) []
theorem ajf{ns:List Nd}{out:List ByteArray}(h:¬Kq ns out<0):Pw ns (out++[(ns.getD (Kq ns out).toNat n0).n])<Pw ns out:=by
 rcases R2 (a4e ns out) ns.length with ⟨h1,_⟩|⟨k,hk,hp,he,_⟩
 ·unfold Kq at h;rw[h1]at h;omega
 ·have e:Kq ns out=k:=he
  rw[e,toNat_cast]
  have hg:ns.getD k n0=ns[k]:=by simp[bn,hk]
  unfold a4e at hp;rw[hg]at hp⊢;simp only[cd,wg]at hp;unfold Pw
  refine ahc (n:=ns[k]) (fun m hm=>?_) ?_ ?_ ns (bz hk)
  ·simp only[wg]at hm⊢
   rw[Mm]at hm;simp only[P6]at hm;exact hm.1
  ·rw[Mm,Tc];simp
  ·simp[hp.1]
section
variable{P:Program}(A:Pr2 P)
theorem ave(t:Tr)(s:ByteArray)(hl:t.ns.length≤2^50):fp P A.vl [.agg (sf t),.str s] (agx t.ns s):=by
 refine cy A.mo A.Sd (by simp) ?_
 show jd P F0 (kf _ _) _;simp only[F0,sf,ix,jj,go_sem,aa,ab]
 refine dq t.ns.length (fun i s'=>s'.base=0∧s'.tmp 2= .dv 2 (s'.ver 2) 0∧s'.bm 2=some (.loc [.d (.dt 2 (t.ps.map pn)),.d (.dt 5 (t.ns.map xe))])∧s'.tmp 1= .d (.str s)∧s'.tmp 8= .d (.int .i64 t.ns.length)∧s'.tmp 9= .d (.int .i64 i)∧
  ∀i',i'<i→jh (t.ns.getD i' n0).n s=false) ?_ ?_
 ·simp only[go_sem,aa,ae]
  try simp
 ·rintro i s' hi ⟨eb,f2,b2,f1,f8,f9,hI⟩
  by_cases iy:(i:Int)<t.ns.length
  ·have cj:i<t.ns.length:=by omega
   have wi:=br ((i:Int)+1) (by omega) (by omega)
   have hg:=Fw cj;cases c1:jh (t.ns.getD i n0).n s
   ·have c1':=c1
    unfold jh at c1';simp only[go_sem,aa,ab,ag,reduceCtorEq,eb,f2,b2,f1,f8,f9,iy,hg,toNat_cast,aj,c1',wi,cj]
    exact⟨by simp,og hI c1⟩
   ·have c1':=c1
    unfold jh at c1'
    have e:V1 t.ns s=i:=R3 (p:=fun i=>jh (t.ns.getD i n0).n s) cj c1 hI
    simp only[go_sem,aa,ab,ag,reduceCtorEq,eb,f2,b2,f1,f8,f9,iy,hg,toNat_cast,aj,c1'];unfold agx;rw[e,if_pos (aj i),toNat_cast];rfl
  ·have:i=t.ns.length:=by omega
   subst this
   have e:V1 t.ns s= -1:=Mq (p:=fun i=>jh (t.ns.getD i n0).n s) hI
   simp only[go_sem,aa,reduceCtorEq,eb,f8,f9,iy];unfold agx;rw[e];rfl
theorem amk(t:Tr)(s:ByteArray)(hl:t.ns.length≤2^50):fp P A.s6 [.str s,.tz (sf t) 0] (.bool !(Sb t.ns s)):=by
 refine cy A.mo A.Vb (by simp) ?_
 show jd P (H9 A.vl) (kf _ _) _;have h:=ave A t s hl;simp only[sf,ix,jj]at h;simp only[H9,sf,ix,jj,go_sem,aa,ab,reduceCtorEq];refine gf h ?_;rw[aeu];unfold agx;by_cases c:0≤V1 t.ns s
 ·simp only[go_sem,aa,c]
 ·simp only[go_sem,aa,c]
theorem aih(s:ByteArray)(out:List ByteArray)(hl:out.length≤2^50):fp P A.o6 [.str s,.tz [ma out] 0] (.bool !(hasB out s)):=by
 refine cy A.mo A.Ny (by simp) ?_
 show jd P (B7 A.k9) (kf _ _) _;have h:=Qh A.toPr out s hl;simp only[ma]at h;simp only[B7,ma,go_sem,aa,reduceCtorEq];refine gf h ?_;simp only[go_sem,aa]
theorem am1(n:Nd)(out:List ByteArray)(hl:out.length≤2^50)(hi:n.ins.length≤2^40):fp P A.me [.agg (xe n),.tz [ma out] 0] (.bool (!hasB out n.n&&Lh n out)):=by
 refine cy A.mo A.Po (by simp) ?_
 show jd P (Cd A.k9 A.o6 A.j8) (kf _ _) _;have h:=Qh A.toPr out n.n hl
 have h2:=a4z A.toPr (l:=n.ins) (g:=A.o6) (caps:=[.tz [ma out] 0]) (p:=fun i=> !(hasB out (n.ins.getD i ⟨#[]⟩))) (fun i hi=>by
  have e:n.ins.getD i ⟨#[]⟩=n.ins[i]:=by simp[bn,hi]
  rw[e];exact aih A _ _ hl) (by omega)
 have a3k:((cq n.ins.length).any fun i=> !(hasB out (n.ins.getD i ⟨#[]⟩)))= !(Lh n out):=by
  unfold Lh;rw[acz];simp
 rw[a3k]at h2;simp only[ma]at h h2;simp only[Cd,xe,ua,jv,ma,go_sem,aa,ab,ag];refine gf h ?_;cases c1:hasB out n.n
 ·simp only[go_sem,aa,ab]
  refine gf h2 ?_;simp only[go_sem,aa,Bool.not_not]
 ·simp only[go_sem,aa,cz]
theorem am0(t:Tr)(hn:t.ns.length≤1000)(hi:∀n∈t.ns,n.ins.length≤2^40):fp P A.qq [.agg (sf t)] (ma (Wn t.ns)):=by
 have main:fp P A.qq [.agg (sf t)] (Cm 1 ((Wn t.ns).map sv)):=by
  refine cy A.mo A.Qu (by simp) ?_
  show jd P (Dt A.me A.gr) (kf _ _) _
  have h0:Pw t.ns []≤t.ns.length:=by unfold Pw;exact Im _ _
  simp only[Dt,sf,ix,jj,go_sem,aa,ab]
  refine dq t.ns.length (fun i s'=>∃(out:List ByteArray) (c:C),s'.base=0∧s'.tmp 1= .dv 1 (s'.ver 1) 0∧s'.bm 1=some (.loc [.d (.dt 2 (t.ps.map pn)),.d (.dt 5 (t.ns.map xe))])∧s'.tmp 3= .dv 3 (s'.ver 3) 0∧s'.bm 3=some (.loc [c])∧Xq s' 20 1 (out.map sv) c∧
   Pw t.ns out+i≤t.ns.length∧out.length=i∧Mi t.ns (t.ns.length+1-i) out=Wn t.ns) ?_ ?_
  ·simp only[go_sem,aa]
   exact⟨[],.d .bd,rfl,Xq.nil,h0,rfl,rfl⟩
  ·rintro i s' Dx ⟨out,c,eb,f1,b1,f3,b3,acc,ho,hol,hor⟩
   have a7x:=aa3 A.toPr (l:=t.ns) (g:=A.me) (caps:=[.tz [Cm 1 (out.map sv)] 0]) (p:=a4e t.ns out) (fun j hj=>by
    have e:t.ns.getD j n0=t.ns[j]:=by simp[bn,hj]
    unfold a4e;rw[e]
    refine(am1 A t.ns[j] out (by omega) (hi _ (bz hj))).args rfl fun a x y hx hy=>?_
    match a with
    |0=>simp at hx hy;subst hx hy;exact Wk.refl _
    |1=>simp at hx hy;subst hx hy;exact Wk.tz rfl (Wk.one Jf)
    |a+2=>simp at hx) (by omega)
   simp only[jj]at a7x
   have Ks:∀(K:PS→Prop) (r:List RI) (s2:PS),s2.cs 3 (s'.ver 3)=some [c]→s2.els 20 (s'.ver 20)=s'.els 20 (s'.ver 20)→s2.ver 20=s'.ver 20→jn P r (s2.put (some 8) (.d (.int .i64 (Kq t.ns out)))) K→
     Dd P A.gr [.d (.dt 5 (t.ns.map xe)),.mb A.me [(3,s'.ver 3)]] [] false (some 8) s2 (xd P r K):=by
    intro K r s2 h1 h2 h3 h4;refine⟨[.dt 5 (t.ns.map xe),.mb A.me [.tz [Cm 1 (out.map sv)] 0]],_,?_,a7x,.inl rfl,h4⟩;simp only[Gt,snap,h1,iz];rcases acc with ⟨a1,rfl⟩|⟨a1,rfl,a3⟩
    ·simp only[mc,Cm,a1,if_true,gz]
    ·have e1:s'.els 20 (s'.ver 20)=some (1,out.map sv):=by unfold PS.els;rw[if_pos rfl,a3]
     simp only[mc,h2,e1,Cm,a1,if_false,if_true,gz]
   by_cases kg:Kq t.ns out<0
   ·have L5:Wn t.ns=out:=by
     rw[←hor,show t.ns.length+1-i=(t.ns.length-i)+1 by omega,Mi,if_pos kg]
    simp only[go_sem,aa,ab,eb,f1,b1,f3]
    refine Ks _ _ _ (by simp[PS.cs,b3]) rfl rfl ?_
    simp only[go_sem,aa,reduceCtorEq,f3,b3,kg,L5];rcases acc with ⟨a1,rfl⟩|⟨a1,rfl,a3⟩
    ·simp only[go_sem,Cm,a1]
    ·simp only[go_sem,Cm,a1,a3]
   ·have hop:=ajf kg
    obtain⟨k,hk,hnx⟩:∃k,k<t.ns.length∧Kq t.ns out=k:=by
     rcases R2 (a4e t.ns out) t.ns.length with ⟨h1,_⟩|⟨k,hk,hp,he,_⟩
     ·unfold Kq at kg;rw[h1]at kg;omega
     ·exact⟨k,hk,he⟩
    have hg:=Fw hk
    have ah6:Mi t.ns (t.ns.length+1-(i+1)) (out++[(t.ns.getD k n0).n])=Wn t.ns:=by
     rw[←hor,show t.ns.length+1-i=(t.ns.length+1-(i+1))+1 by omega]
     conv=>rhs;rw[Mi,if_neg kg,hnx,toNat_cast]
    rw[hnx,toNat_cast]at hop;rw[hnx]at kg;simp only[go_sem,aa,ab,eb,f1,b1,f3]
    refine Ks _ _ _ (by simp[PS.cs,b3]) rfl rfl ?_
    rw[hnx];simp only[go_sem,aa,ab,ag,reduceCtorEq,ca,f1,b1,f3,b3,kg,hg,toNat_cast,aj]
    refine r8 (els:=out.map sv) (ys:=[sv (t.ns.getD k n0).n]) (osz:=some 1) ?_ ?_ rfl (by simp[sv,D.one]) ?_ (by simp) ?_
    ·simp only[go_sem,aa]
     have:=acc.acc
     cases c<;>exact this.mono (by simp[]) (by simp[])
    ·simp only[go_sem,aa,ov,sv]
    ·simp only[ae,bq,dh]
     omega
    ·intro s3 g
     have gv1:=g.ver 1 (by simp)
     have gv3:=g.ver 3 (by simp)
     have gb1:s3.bm 1=s'.bm 1:=by rw[g.bm];simp[al]
     have gb3:s3.bm 3=s'.bm 3:=by rw[g.bm];simp[al]
     have azp:s3.bm 20=some (.arr 1 (out.map sv++[sv (t.ns.getD k n0).n])):=by rw[g.bm];simp[al]
     have gt:=g.tmp;simp only[eh]at gt;simp only[]at gv1 gv3;simp only[go_sem,aa,gt,f1,f3,g.base,gv1,gv3,gb1,gb3,azp,b1,b3,beq_self_eq_true]
     refine⟨by omega,out++[(t.ns.getD k n0).n],_,rfl,.inr ⟨by simp,?_,?_⟩,by omega,by simp[hol],ah6⟩
     ·simp
     ·simp[azp,al]
 exact main.Qe Jf
end
theorem a8q:∀(x y:List UInt8),ahr x y=decide (x<y):=by
 intro x
 induction x with
 |nil=>
  intro y
  cases y with
  |nil=>rfl
  |cons b y=>simp[ahr]
 |cons a x ih=>
  intro y
  cases y with
  |nil=>simp[ahr]
  |cons b y=>
   simp only[ahr,ih,List.cons_lt_cons_iff];rw[Q4];simp
theorem Ui(a b:ByteArray):strLt a b=decide (a.toList<b.toList):=a8q _ _
theorem ay2{a b c:UInt8}(h:a<b)(k:b<c):a<c:=UInt8.lt_trans h k
theorem a9p{a b c:ByteArray}(h:strLt a b=true)(k:strLt b c=true):strLt a c=true:=by
 rw[Ui,decide_eq_true_eq]at*
 exact List.lt_trans h k
theorem Xs{a b:ByteArray}(h:strLt a b=true):strLt b a=false:=by
 rw[Ui,decide_eq_true_eq]at h;rw[Ui,decide_eq_false_iff_not];exact List.lt_asymm h
def a96:List Nd→Prop
 |[]=>True
 |n::r=>isE n.n=false∧(∀m∈r,strLt n.n m.n=true)∧a96 r
theorem aj3{ns:List Nd}(h1:∀n∈ns,isE n.n=false)(h2:∀i (_:i+1<ns.length),strLt (ns[i]'(by omega)).n (ns[i+1]).n=true):a96 ns:=by
 induction ns with
 |nil=>trivial
 |cons n r ih=>
  refine⟨h1 n (by simp),?_,ih (fun m hm=>h1 m (by simp[hm])) fun i hi=>?_⟩
  ·have:∀k (hk:k<r.length),strLt n.n (r[k]).n=true:=by
    intro k
    induction k with
    |zero=>intro hk;exact h2 0 (by simp;omega)
    |succ k ihk=>
     intro hk
     refine a9p (ihk (by omega)) ?_
     have:=h2 (k+1) (by simp;omega)
     simpa using this
   intro m hm;obtain⟨k,hk,rfl⟩:=Ro hm;exact this k hk
  ·have:=h2 (i+1) (by simp;omega)
   simpa using this
def a8o(out:List ByteArray)(n:Nd):Bool:= !hasB out n.n&&Lh n out
theorem ak9{out:List ByteArray}{b:ByteArray}(hb:isE b=false):∀{l:List Nd},(∀m∈l,strLt b m.n=true)→l.foldl (mg out) b=b:=by
 intro l
 induction l with
 |nil=>intro _;rfl
 |cons n r ih=>
  intro h
  have e:mg out b n=b:=by
   unfold mg
   rw[hb,Xs (h n (by simp))]
   simp
  rw[ya,e]
  exact ih fun m hm=>h m (by simp[hm])
theorem aka{out:List ByteArray}:∀{l:List Nd},a96 l→l.foldl (mg out) ⟨#[]⟩=match l.find? (a8o out)with|some n=>n.n|none=>⟨#[]⟩:=by
 intro l
 induction l with
 |nil=>intro _;rfl
 |cons n r ih=>
  rintro⟨h1,h2,h3⟩;rw[ya,List.find?_cons]
  have he:isE ⟨#[]⟩=true:=by decide+kernel
  cases hc:a8o out n
  ·have e:mg out ⟨#[]⟩ n=⟨#[]⟩:=by
    unfold mg;unfold a8o at hc;rw[he,Jh,F9,hc];rfl
   rw[e];exact ih h3
  ·have e:mg out ⟨#[]⟩ n=n.n:=by
    unfold mg;unfold a8o at hc;rw[he,Jh,F9,hc];rfl
   rw[e];exact ak9 h1 h2
theorem akd(ns:List Nd)(out:List ByteArray):(Kq ns out<0∧ns.find? (a8o out)=none)∨(¬Kq ns out<0∧ns.find? (a8o out)=some (ns.getD (Kq ns out).toNat n0)):=by
 rcases R2 (a4e ns out) ns.length with ⟨h1,h2⟩|⟨k,hk,hp,he,hb⟩
 ·refine .inl ⟨by unfold Kq;omega,Ub.2 fun n hn=>?_⟩
  obtain⟨i,hi,rfl⟩:=Ro hn;have:=h2 i hi;unfold a4e at this
  have e:ns.getD i n0=ns[i]:=by simp[bn,hi]
  rw[e]at this;unfold a8o;simp[this]
 ·have e:Kq ns out=k:=he
  have eg:ns.getD k n0=ns[k]:=by simp[bn,hk]
  refine .inr ⟨by omega,?_⟩
  rw[e,toNat_cast,eg]
  refine W1.2 ⟨?_,ns.take k,ns.drop (k+1),?_,fun m hm=>?_⟩
  ·unfold a4e at hp
   rw[eg]at hp;exact hp
  ·rw[←gd hk,Mf]
  ·obtain⟨i,hi,rfl⟩:=Ro hm
   have hik:i<k:=by simp at hi;omega
   have:=hb i hik;unfold a4e at this
   have e:ns.getD i n0=ns[i]:=by
     have:i<ns.length:=by omega
     simp[bn,this]
   rw[e]at this;unfold a8o;rw[aAy];simp[this]
theorem ae4{ns:List Nd}(h:a96 ns)(kg:∀n∈ns,isE n.n=false):∀k out,Tg ns k out=Mi ns k out:=by
 intro k
 induction k with
 |zero=>intro out;rfl
 |succ k ih=>
  intro out
  have hb:M3 ns out=match ns.find? (a8o out)with|some n=>n.n|none=>⟨#[]⟩:=aka h
  rw[Tg,Mi];rcases akd ns out with ⟨h1,h2⟩|⟨h1,h2⟩
  ·rw[h2]at hb
   have he:isE ⟨#[]⟩=true:=by decide+kernel
   rw[hb,if_pos he,if_pos h1]
  ·rw[h2]at hb
   have hm:ns.getD (Kq ns out).toNat n0∈ns:=Rn h2;rw[hb];simp only
   rw[kg _ hm,if_neg (by simp),if_neg h1]
   exact ih _
theorem as9{pr:List (List Sp)→Bool}{t:Tr}{i:Nat}(h:zw pr t i=true):uu (t.ns.getD i n0).n=true∧ui (t.ns.map Nd.n) i=true∧u9 pr (t.ns.getD i n0).f=true:=by
 unfold zw at h;simp only[cd]at h;exact⟨h.1,h.2.1,h.2.2.1⟩
theorem ae5{t:Tr}(h1:∀i,i<t.ns.length→uu (t.ns.getD i n0).n=true)(h2:∀i,i<t.ns.length→ui (t.ns.map Nd.n) i=true):Fu t.ns=Wn t.ns:=by
 have kg:∀n∈t.ns,isE n.n=false:=by
  intro n hn;obtain⟨i,hi,rfl⟩:=Ro hn;have:=h1 i hi
  have e:t.ns.getD i n0=t.ns[i]:=by simp[bn,hi]
  rw[e]at this;exact aat this
 refine ae4 (aj3 kg fun i hi=>?_) kg _ _
 have:=h2 (i+1) hi;unfold ui at this
 have e1:i<t.ns.length:=by omega
 simpa[hi,e1]using this
section
variable{P:Program}(A:Pr2 P)
theorem aa7{pr:List (List Sp)→Bool}(hpr:J5 A.toPr pr)(t:Tr)(hs:Rk t):fp P A.la [.agg (sf t)] (.int .i64 (if Cr pr t then 0 else 230)):=by
 refine cy A.mo A.Z4 (by simp) ?_
 show jd P (K5 A.lr A.j5 A.ux A.zi A.s6 A.j8 A.qq) (kf _ _) _;obtain⟨hs1,hs2⟩:=hs;have hrp:=Sw A.toPr t.ps;simp only[ix]at hrp;unfold Cr;simp only[K5,sf,ix,jj,go_sem,aa,ab,ag];refine ee hrp ?_;cases c1:Aa t.ps
 ·simp only[go_sem,aa,je,reduceCtorEq,cz]
 ·by_cases c2:(20:Int)<t.ns.length
  ·have c2':¬t.ns.length≤20:=by omega
   simp only[go_sem,aa,je,ab,reduceCtorEq,ae,c2,c2',cz]
  ·have c2':t.ns.length≤20:=by omega
   have no:∀i,i<t.ns.length→zw pr t i=false→((cq t.ns.length).all (zw pr t)&&((Fu t.ns).length:Int)==t.ns.length)=false:=fun i hi h=>by rw[all_false hi h,cz]
   simp only[go_sem,aa,je,ab,reduceCtorEq,ae,c2,c2']
   refine rv (fun s'=>s'.base=0∧s'.tmp 1= .dv 1 (s'.ver 1) 0∧s'.bm 1=some (.loc [.d (.dt 2 (t.ps.map pn)),.d (.dt 5 (t.ns.map xe))])∧∀i',i'<t.ns.length→uu (t.ns.getD i' n0).n=true∧ui (t.ns.map Nd.n) i'=true) ?_ ?_
   ·refine dq t.ns.length (fun i s'=>s'.base=0∧s'.tmp 1= .dv 1 (s'.ver 1) 0∧s'.bm 1=some (.loc [.d (.dt 2 (t.ps.map pn)),.d (.dt 5 (t.ns.map xe))])∧s'.tmp 22= .d (.dt 5 (t.ns.map xe))∧s'.tmp 23= .d (.int .i64 t.ns.length)∧s'.tmp 24= .d (.int .i64 i)∧
     ∀i',i'<i→uu (t.ns.getD i' n0).n=true∧ui (t.ns.map Nd.n) i'=true) ?_ ?_
    ·simp only[go_sem,aa]
     try simp
    ·rintro i s' hi ⟨eb,f1,b1,f22,f23,f24,hI⟩
     by_cases iy:(i:Int)<t.ns.length
     ·have cj:i<t.ns.length:=by omega
      have wi:=br ((i:Int)+1) (by omega) (by omega)
      have hg:=Fw cj
      have hgn:t.ns.getD i n0=t.ns[i]:=by simp[bn,cj]
      have C4:zw pr t i=(uu (t.ns.getD i n0).n&&(ui (t.ns.map Nd.n) i&&(u9 pr (t.ns.getD i n0).f&&(((t.ns.getD i n0).ins.length:Int)==kIn (t.ns.getD i n0).f.k.toNat&&(((cq (t.ns.getD i n0).ins.length).all fun k=>Sb t.ns ((t.ns.getD i n0).ins.getD k ⟨#[]⟩))&&(ur pr (t.ns.getD i n0).f t.ps).2==0))))):=rfl
      have no:=no i cj;have V9:=Up A.toPr (t.ns.getD i n0).n
      have ah5:∀h:0<i,ui (t.ns.map Nd.n) i=strLt t.ns[i-1].n (t.ns.getD i n0).n:=fun h=>by
       unfold ui
       have:i-1<t.ns.length:=by omega
       have h0:i≠0:=by omega
       simp[h0,this,cj]
      have hg':∀h:0<i,(t.ns.map xe)[i-1]? =some [.str t.ns[i-1].n,.int .i64 t.ns[i-1].f.k,ua t.ns[i-1].f.vs,jv t.ns[i-1].f.ls,ma t.ns[i-1].ins]:=fun h=>by
       have:i-1<t.ns.length:=by omega
       simp[this,xe]
      generalize hnn:t.ns.getD i n0=n at*
      simp only[ua,jv,ma]at hg hg';simp only[go_sem,aa,ab,ag,reduceCtorEq,eb,f22,f23,f24,iy,hg,toNat_cast,aj];refine ee V9 ?_;cases d1:uu n.n
      ·have:zw pr t i=false:=by rw[C4,d1];rfl
       simp only[go_sem,aa,no this]
      ·by_cases d2:0<i
       ·have d2':(0:Int)<i:=by omega
        have w1:=br ((i:Int)-1) (by omega) (by omega)
        have z:(0:Int)≤(i:Int)-1:=by omega
        cases d3:strLt t.ns[i-1].n n.n
        ·have d3':=d3
         unfold strLt at d3'
         have:zw pr t i=false:=by rw[C4,ah5 d2,d3,d1];rfl
         simp only[go_sem,aa,ab,ag,reduceCtorEq,f1,b1,d2',w1,Gm d2',hg' d2,z,d3',no this]
        ·have d3':=d3
         unfold strLt at d3';simp only[go_sem,aa,ab,ag,reduceCtorEq,f1,b1,f22,f23,f24,d2',w1,Gm d2',hg' d2,z,d3',wi,cj]
         exact⟨by simp,og hI (by rw[hnn,ah5 d2];exact⟨d1,d3⟩)⟩
       ·have d2':¬(0:Int)<i:=by omega
        have hr0:ui (t.ns.map Nd.n) i=true:=by unfold ui;simp;omega
        simp only[go_sem,aa,reduceCtorEq,f1,b1,f22,f23,f24,d2',wi,cj]
        exact⟨by simp,og hI (by rw[hnn];exact⟨d1,hr0⟩)⟩
     ·have:i=t.ns.length:=by omega
      subst this;simp only[go_sem,aa,reduceCtorEq,eb,f1,b1,f23,f24,iy];exact hI
   ·rintro s' ⟨eb,f1,b1,hnr⟩
    simp only[go_sem,aa,ab,eb,f1,b1,ae]
    refine rv (fun s'=>s'.base=0∧s'.tmp 1= .dv 1 (s'.ver 1) 0∧s'.bm 1=some (.loc [.d (.dt 2 (t.ps.map pn)),.d (.dt 5 (t.ns.map xe))])∧(cq t.ns.length).all (zw pr t)=true) ?_ ?_
    ·refine dq t.ns.length (fun i s'=>s'.base=0∧s'.tmp 1= .dv 1 (s'.ver 1) 0∧s'.bm 1=some (.loc [.d (.dt 2 (t.ps.map pn)),.d (.dt 5 (t.ns.map xe))])∧s'.tmp 51= .d (.dt 5 (t.ns.map xe))∧s'.tmp 52= .d (.int .i64 t.ns.length)∧s'.tmp 53= .d (.int .i64 i)∧∀i',i'<i→zw pr t i'=true) ?_ ?_
     ·simp only[go_sem,aa,f1,b1]
      try simp
     ·clear eb f1 b1
      rintro i s' hi ⟨eb,f1,b1,f51,f52,f53,hI⟩;by_cases iy:(i:Int)<t.ns.length
      ·have cj:i<t.ns.length:=by omega
       have wi:=br ((i:Int)+1) (by omega) (by omega)
       have hg:=Fw cj
       have hgn:t.ns.getD i n0=t.ns[i]:=by simp[bn,cj]
       obtain⟨q1,q2,q3,q4⟩:=hs2 _ (bz cj);rw[←hgn]at q1 q2 q3 q4
       have C4:zw pr t i=(uu (t.ns.getD i n0).n&&(ui (t.ns.map Nd.n) i&&(u9 pr (t.ns.getD i n0).f&&(((t.ns.getD i n0).ins.length:Int)==kIn (t.ns.getD i n0).f.k.toNat&&(((cq (t.ns.getD i n0).ins.length).all fun k=>Sb t.ns ((t.ns.getD i n0).ins.getD k ⟨#[]⟩))&&(ur pr (t.ns.getD i n0).f t.ps).2==0))))):=rfl
       have no:=no i cj;rw[(hnr i cj).1,(hnr i cj).2,qu,qu]at C4;have ajx:=adn A.toPr hpr (t.ns.getD i n0).f t.ps q2 q3 q4;have hin:=ait A.toPr (t.ns.getD i n0).f.k
       have aet:=a4z A.toPr (l:=(t.ns.getD i n0).ins) (g:=A.s6) (caps:=[.tz (sf t) 0]) (p:=fun k=> !(Sb t.ns ((t.ns.getD i n0).ins.getD k ⟨#[]⟩))) (fun k hk=>by
        have e:(t.ns.getD i n0).ins.getD k ⟨#[]⟩=(t.ns.getD i n0).ins[k]:=by rw[yb,ao hk];rfl
        rw[e];exact amk A t _ (by omega)) (by omega)
       have a3k:((cq (t.ns.getD i n0).ins.length).any fun k=> !(Sb t.ns ((t.ns.getD i n0).ins.getD k ⟨#[]⟩)))= !((cq (t.ns.getD i n0).ins.length).all fun k=>Sb t.ns ((t.ns.getD i n0).ins.getD k ⟨#[]⟩)):=by
        rw[acz];simp
       rw[a3k]at aet
       generalize hnn:t.ns.getD i n0=n at*
       simp only[sf,ix,jj,ma]at aet;simp only[ua,jv,ma]at hg;simp only[cFt,ua,jv,ix,a5u]at ajx;simp only[go_sem,aa,ab,ag,reduceCtorEq,eb,f1,b1,f51,f52,f53,iy,hg,toNat_cast,aj];refine gf ajx ?_;cases c6:((ur pr n.f t.ps).2==0)
       ·have c6':((ur pr n.f t.ps).2 !=0)=true:=by unfold bne;rw[c6];rfl
        have:zw pr t i=false:=by rw[C4,c6];simp
        simp only[go_sem,aa,reduceCtorEq,c6',no this]
       ·have c6':((ur pr n.f t.ps).2 !=0)=false:=by unfold bne;rw[c6];rfl
        have hfe:u9 pr n.f=true:=by
         cases h:u9 pr n.f
         ·unfold ur at c6
          rw[if_pos h]at c6;cases c6
         ·rfl
        have hk:0≤n.f.k∧n.f.k<14:=by
         have:=hfe;unfold u9 at this;simp only[cd,decide_eq_true_eq]at this;exact this.1
        rw[hfe,c6,qu,F9]at C4;rw[if_pos hk,if_pos hk]at hin;simp only[go_sem,aa,ab,ag,reduceCtorEq,c6'];refine ee hin ?_;cases c7:((n.ins.length:Int)==kIn n.f.k.toNat)
        ·have c7':(kIn n.f.k.toNat !=(n.ins.length:Int))=true:=by
          have:=beq_eq_false_iff_ne.1 c7
          exact bne_iff_ne.2 fun h=>this h.symm
         have:zw pr t i=false:=by rw[C4,c7];rfl
         simp only[go_sem,aa,ab,reduceCtorEq,ae,c7',no this]
        ·have c7':(kIn n.f.k.toNat !=(n.ins.length:Int))=false:=by
          have:=beq_iff_eq.1 c7;rw[this];simp
         rw[c7,qu]at C4;simp only[go_sem,aa,ab,reduceCtorEq,f1,ae,c7'];refine aft (ds:=[.dt 1 (n.ins.map sv),.mb A.s6 [.tz [.dt 2 (t.ps.map pn),.dt 5 (t.ns.map xe)] 0]]) ?_ aet (.inl rfl) ?_
         ·simp only[go_sem,aa,b1,iz,mc]
         ·cases c8:(cq n.ins.length).all fun k=>Sb t.ns (n.ins.getD k ⟨#[]⟩)
          ·have:zw pr t i=false:=by rw[C4,c8]
           simp only[go_sem,aa,no this]
          ·simp only[go_sem,aa,reduceCtorEq,f1,b1,f51,f52,f53,wi,cj]
           exact⟨by simp,og hI (by rw[C4,c8])⟩
      ·have:i=t.ns.length:=by omega
       subst this;simp only[go_sem,aa,reduceCtorEq,eb,f1,b1,f52,f53,iy];exact all_true hI
    ·clear eb f1 b1
     rintro s' ⟨eb,f1,b1,zx⟩
     have ho:=am0 A t (by omega) (fun n hn=>by have:=(hs2 n hn).1;omega)
     rw[←ae5 (fun i hi=>(hnr i hi).1) (fun i hi=>(hnr i hi).2)]at ho
     simp only[sf,ix,jj,ma]at ho;rw[zx,qu];simp only[go_sem,ab,eb,f1,b1];refine ee ho ?_;cases c9:(((Fu t.ns).length:Int)==t.ns.length)
     ·have c9':(((Fu t.ns).length:Int) !=t.ns.length)=true:=by unfold bne;rw[c9];rfl
      simp only[go_sem,aa,ab,reduceCtorEq,f1,b1,ae,c9']
     ·have c9':(((Fu t.ns).length:Int) !=t.ns.length)=false:=by unfold bne;rw[c9];rfl
      simp only[go_sem,aa,ab,reduceCtorEq,f1,b1,ae,c9']
end
def di(u v:Sp):Int:=u.1*v.2-u.2*v.1
def abh(e:Ed)(p:Sp):Bool:=di (jq e.1 p) (jq e.2 p)==0&&decide ((e.1.1-p.1)*(e.2.1-p.1)+(e.1.2-p.2)*(e.2.2-p.2)<0)
theorem a5x(n:Int):(if(if n<1 then n else 1)> -1 then(if n<1 then n else 1)else-1)=sgn n:=by
 unfold sgn;by_cases h1:n<1
 ·simp only[h1,if_true]
  by_cases h2:n<0
  ·rw[if_neg (by omega),if_pos h2]
  ·rw[if_pos (by omega),if_neg h2,if_neg (by omega)];omega
 ·simp only[h1,if_false]
  rw[if_pos (by decide),if_neg (by omega),if_pos (by omega)]
theorem aj4(a:Sp):Dq a=(decide ((if a.2>a.1 then a.2 else a.1)≤500)&&decide ((if a.2<a.1 then a.2 else a.1)≥-500)):=by
 unfold Dq;rw[Q4];simp only[cd,decide_eq_true_eq];constructor
 ·rintro⟨h1,h2,h3,h4⟩
  constructor<;>split<;>omega
 ·rintro⟨h1,h2⟩
  split at h1<;>split at h2<;>omega
theorem att(a b p:Sp):di (jq b a) (jq p a)=gj a b p:=rfl
section
variable{P:Program}(A:Pr P)
theorem alx(a:Sp):fp P A.tx [vt a] (.bool (Dq a)):=by
 refine cy A.mo A.Qx (by simp) ?_
 show jd P Aq (kf _ _) _;rw[aj4]
 by_cases h:(if a.2>a.1 then a.2 else a.1)≤500
 ·have h':=h
  simp only[gt_iff_lt]at h';simp only[Aq,vt,go_sem,aa,bx,df,bc,da,de,ab,ag,reduceCtorEq,h']
 ·have h':=h
  simp only[gt_iff_lt]at h';simp only[Aq,vt,go_sem,aa,bx,df,bc,da,de,ab,ag,reduceCtorEq,h',cz]
theorem Fc{a b:Sp}(ha:SmP a)(hb:SmP b):fp P A.dr [vt a,vt b] (vt (jq a b)):=by
 refine cy A.mo A.Qy (by simp) ?_
 show jd P Dw (kf _ _) _;obtain⟨⟨a1,a2⟩,a3,a4⟩:=ha;obtain⟨⟨b1,b2⟩,b3,b4⟩:=hb
 have w1:=br (a.1-b.1) (by omega) (by omega)
 have w2:=br (a.2-b.2) (by omega) (by omega)
 simp only[Dw,vt,go_sem,aa,bx,df,da,de,ab,ag,reduceCtorEq,w1,w2,jq]
theorem Oe{u v:Sp}(hu:SmP u)(hv:SmP v):fp P A.ib [vt u,vt v] (.int .i64 (di u v)):=by
 refine cy A.mo A.Z6 (by simp) ?_
 show jd P K7 (kf _ _) _;obtain⟨w1,w2,w3,_⟩:=cr2 hu hv;simp only[K7,vt,go_sem,aa,bx,df,da,de,ab,ag,reduceCtorEq,w1,w2,w3,di]
theorem avc{a b c:Sp}(ha:SmL a)(hb:SmL b)(hc:SmL c):fp P A.C0 [vt a,vt b,vt c] (.int .i64 (sgn (di (jq b a) (jq c b)))):=by
 refine cy A.mo A.a1h (by simp) ?_
 show jd P (Ll A.dr A.ib) (kf _ _) _;have h1:=Fc A hb.p ha.p;have h2:=Fc A hc.p hb.p;have h3:=Oe A (hb.sub ha) (hc.sub hb);simp only[vt,jq]at h1 h2 h3;simp only[Ll,vt,go_sem,aa,bc,ab];refine gf h1 ?_;simp only[go_sem,aa,bc,ab];refine gf h2 ?_;simp only[go_sem,aa,bc];refine gf h3 ?_;simp only[go_sem,aa,bc,jq];rw[←a5x]
theorem avg{e:Ed}{p:Sp}(h1:SmL e.1)(h2:SmL e.2)(hp:SmL p):fp P A.sg [dEd e,vt p] (.bool (abh e p)):=by
 refine cy A.mo A.Q8 (by simp) ?_
 show jd P (D9 A.dr A.ib) (kf _ _) _;have k1:=Fc A h1.p hp.p;have k2:=Fc A h2.p hp.p;have k3:=Oe A (h1.sub hp) (h2.sub hp);have hs1:=h1.sub hp;have hs2:=h2.sub hp;simp only[vt,jq]at k1 k2 k3;simp only[D9,dEd,vt,go_sem,aa,bx,ab,ag];refine gf k1 ?_;simp only[go_sem,aa,bx,df,da,de,ab];refine gf k2 ?_;simp only[go_sem,aa,ab];refine gf k3 ?_;unfold abh;simp only[jq];simp only[jq]at hs1 hs2;obtain⟨⟨a1,a2⟩,a3,a4⟩:=hs1;obtain⟨⟨b1,b2⟩,b3,b4⟩:=hs2
 have m1:=a3i (x:=e.1.1-p.1) (y:=e.2.1-p.1) (by simp only at*;omega) (by simp only at*;omega)
 have m2:=a3i (x:=e.1.2-p.2) (y:=e.2.2-p.2) (by simp only at*;omega) (by simp only at*;omega)
 have w1:=br ((e.1.1-p.1)*(e.2.1-p.1)) (by omega) (by omega)
 have w2:=br ((e.1.2-p.2)*(e.2.2-p.2)) (by omega) (by omega)
 have w3:=br ((e.1.1-p.1)*(e.2.1-p.1)+(e.1.2-p.2)*(e.2.2-p.2)) (by omega) (by omega)
 cases c:(di (e.1.1-p.1,e.1.2-p.2) (e.2.1-p.1,e.2.2-p.2)==0)
 ·simp only[go_sem,aa,reduceCtorEq,c,cz]
 ·simp only[go_sem,aa,bx,df,da,de,ab,ag,reduceCtorEq,c,w1,w2,w3]
theorem a6t{e:Ed}{p:Sp}(h1:SmL e.1)(h2:SmL e.2)(hp:SmL p):fp P A.o7 [dEd e,vt p] (.int .i64 (sgn (gj e.1 e.2 p))):=by
 refine cy A.mo A.L8 (by simp) ?_
 show jd P (yj A.dr A.ib) (kf _ _) _;have k1:=Fc A h2.p h1.p;have k2:=Fc A hp.p h1.p;have k3:=Oe A (h2.sub h1) (hp.sub h1);rw[att]at k3;simp only[vt,jq]at k1 k2 k3;simp only[yj,dEd,vt,go_sem,aa,bx,df,bc,da,de,ab,ag];refine gf k1 ?_;simp only[go_sem,aa,bx,bc,ab,ag];refine gf k2 ?_;simp only[go_sem,aa,bc];refine gf k3 ?_;simp only[go_sem,aa,bc];rw[←a5x]
theorem aik{e f:Ed}(h1:SmL e.1)(h2:SmL e.2)(h3:SmL f.1)(h4:SmL f.2):fp P A.pq [dEd e,dEd f] (.bool (Km e f)):=by
 refine cy A.mo A.Me (by simp) ?_
 show jd P (Ae A.o7) (kf _ _) _;have k1:=a6t A h1 h2 h3;have k2:=a6t A h1 h2 h4;have k3:=a6t A h3 h4 h1;have k4:=a6t A h3 h4 h2;have b1:=a6n (gj e.1 e.2 f.1) (gj e.1 e.2 f.2);have b2:=a6n (gj f.1 f.2 e.1) (gj f.1 f.2 e.2)
 have w1:=br _ (by omega) (by omega:sgn (gj e.1 e.2 f.1)*sgn (gj e.1 e.2 f.2)≤9223372036854775807)
 have w2:=br _ (by omega) (by omega:sgn (gj f.1 f.2 e.1)*sgn (gj f.1 f.2 e.2)≤9223372036854775807)
 simp only[dEd,vt]at k1 k2 k3 k4;unfold Km;simp only[Ae,dEd,go_sem,aa,bx,ab,ag];refine Ly k1 ?_;simp only[go_sem,aa,bx,df,da,de,ab];refine Ly k2 ?_;by_cases c:sgn (gj e.1 e.2 f.1)*sgn (gj e.1 e.2 f.2)<0
 ·simp only[go_sem,aa,bx,ab,ag,reduceCtorEq,w1,c]
  refine Ly k3 ?_;simp only[go_sem,aa,bx,df,da,de,ab];refine Ly k4 ?_;simp only[go_sem,aa,reduceCtorEq,w2]
 ·simp only[go_sem,aa,reduceCtorEq,w1,c,cz]
theorem aqt(a:Sp):fp P A.x9 [vt a] (.bool !(Dq a)):=by
 refine cy A.mo A.X6 (by simp) ?_
 show jd P (It A.tx) (kf _ _) _;have h:=alx A a;simp only[vt]at h;simp only[It,vt,go_sem,aa,ab];refine ee h ?_;simp only[go_sem,aa]
theorem ai5{ls:List (List Sp)}(h2:∀l∈ls,l.length≤2^30):tj ls≤ls.length*2^30:=by
 unfold tj
 induction ls with
 |nil=>simp
 |cons l r ih=>
  have:=ih fun m hm=>h2 m (by simp[hm])
  have:=h2 l (by simp)
  simp only[cu,aFz,bq];omega
theorem aqq(ls:List (List Sp))(h1:ls.length≤2^30)(h2:∀l∈ls,l.length≤2^30):fp P A.qk [.agg [jv ls]] (.int .i64 (tj ls)):=by
 refine cy A.mo A.Oq (by simp) ?_
 show jd P Br (kf _ _) _;simp only[Br,jv,go_sem,aa,ae]
 refine dq ls.length (fun i s'=>s'.tmp 7= .d (.dt 1 (ls.map fun l=>[se l]))∧s'.tmp 8= .d (.int .i64 ls.length)∧s'.tmp 9= .d (.int .i64 i)∧s'.tmp 3= .d (.int .i64 (tj (ls.take i)))) ?_ ?_
 ·simp only[go_sem,aa]
  simp[tj]
 ·rintro i s' hi ⟨f7,f8,f9,f3⟩
  by_cases iy:(i:Int)<ls.length
  ·have cj:i<ls.length:=by omega
   have wi:=br ((i:Int)+1) (by omega) (by omega)
   have ht:=Mg cj
   have hgi:ls.getD i []=ls[i]:=by simp[bn,cj]
   rw[hgi]at ht
   have hle:=ai5 (ls:=ls.take i) fun l hl=>h2 l (aq6 hl)
   have hl:=h2 _ (bz cj)
   have hti:(ls.take i).length≤2^30:=by simp;omega
   have hb:tj (ls.take i)≤2^60:=gn hle (by have:=aFd hti (ar (2^30));omega)
   have w:=br ((tj (ls.take i):Int)+ls[i].length) (by omega) (by omega)
   have e:((tj (ls.take (i+1)):Nat):Int)=(tj (ls.take i):Int)+ls[i].length:=by rw[ht];omega
   simp only[go_sem,aa,reduceCtorEq,f7,f8,f9,f3,iy,Cf cj,toNat_cast,aj,ae,w,wi,cj,e]
   try simp
  ·have:i=ls.length:=by omega
   subst this;rw[eo]at f3;simp only[go_sem,aa,reduceCtorEq,f8,f9,f3,iy]
theorem adj(ls:List (List Sp))(h1:ls.length≤2^30)(h2:(fl ls).length≤2^30):fp P A.mu [.agg [jv ls]] (Oy (fl ls)):=by
 have main:fp P A.mu [.agg [jv ls]] (Cm 4 ((fl ls).map Bk)):=by
  refine cy A.mo A.Lv (by simp) ?_
  show jd P zq (kf _ _) _;simp only[zq,jv,go_sem,aa,ae]
  refine dq ls.length (fun i s'=>s'.base=0∧s'.tmp 9= .d (.dt 1 (ls.map fun l=>[se l]))∧s'.tmp 10= .d (.int .i64 ls.length)∧s'.tmp 11= .d (.int .i64 i)∧uc s' 34 4 ((fl (ls.take i)).map Bk) (s'.tmp 3)) ?_ ?_
  ·simp only[go_sem,aa]
   exact uc.nil
  ·rintro i s' hi ⟨eb,f9,f10,f11,acc⟩
   by_cases iy:(i:Int)<ls.length
   ·have cj:i<ls.length:=by omega
    have wi:=br ((i:Int)+1) (by omega) (by omega)
    have hgi:=Cf cj;simp only[go_sem,aa,reduceCtorEq,eb,f9,f10,f11,iy,hgi,toNat_cast,aj,ae]
    refine dq ls[i].length (fun k s'=>s'.base=0∧s'.tmp 9= .d (.dt 1 (ls.map fun l=>[se l]))∧s'.tmp 10= .d (.int .i64 ls.length)∧s'.tmp 11= .d (.int .i64 i)∧s'.tmp 5= .d (.dt 2 (ls[i].map zm))∧s'.tmp 15= .d (.dt 2 (ls[i].map zm))∧s'.tmp 16= .d (.int .i64 ls[i].length)∧s'.tmp 17= .d (.int .i64 k)∧
     uc s' 34 4 ((fl (ls.take i)++(i7 ls[i]).take k).map Bk) (s'.tmp 3)) ?_ ?_
    ·simp only[go_sem,aa,f9,f10,f11,th]
     exact acc.mono rfl rfl
    ·clear eb f9 f10 f11 acc
     rintro k s' hk ⟨eb,f9,f10,f11,f5,f15,f16,f17,acc⟩;by_cases Ch:(k:Int)<ls[i].length
     ·have mq:k<ls[i].length:=by omega
      have hle:=Jd cj (aFy mq)
      have hl1:ls[i].length≤2^30:=by
       have:=Jd cj (ar ls[i].length);simp only[cb,dd,tu]at this;omega
      have wk:=br ((k:Int)+1) (by omega) (by omega)
      have hm:(k+1)%ls[i].length<ls[i].length:=a30 _ (by omega)
      have hm':(((k+1)%ls[i].length:Nat):Int)<ls[i].length:=by omega
      have kg:¬((ls[i].length:Nat):Int)=0:=by omega
      simp only[go_sem,aa,ab,ag,reduceCtorEq,ca,eb,f5,f15,f16,f17,ae,Ch,toNat_cast,aj,Bm mq,Bm hm,wk,W6,kg]
      refine r8 (els:=(fl (ls.take i)++(i7 ls[i]).take k).map Bk) (ys:=[Bk (yo ls[i] k)]) (osz:=some 4) ?_ ?_ rfl (by simp[Bk,D.one]) ?_ (by simp) ?_
      ·simp only[go_sem,aa]
       exact acc.mono (by simp[al]) (by simp[al])
      ·simp only[go_sem,aa,ov]
       rfl
      ·simp only[ae,bq,dh]
       omega
      ·intro s2 g
       simp only[go_sem,aa,reduceCtorEq,g.tmp,g.base,f9,f10,f11,f5,f15,f16,f17,wk,mq]
       refine⟨by simp,?_⟩
       have ha:=g.acc (by simp)
       rw[g.tmp,bh]at ha;rw[Lr mq,←we];simp only[eh,fb,cu,ez]at ha⊢;exact ha.mono rfl rfl
     ·have hke:k=ls[i].length:=by omega
      simp only[go_sem,aa,reduceCtorEq,eb,f9,f10,f11,f16,f17,Ch,wi,cj]
      refine⟨by simp,?_⟩
      rw[U0 cj]
      rw[hke,Ab (l:=i7 ls[i]) (by rw[tu];exact ar _)]at acc
      exact acc.mono rfl rfl
   ·have:i=ls.length:=by omega
    subst this;rw[eo]at acc;simp only[go_sem,aa,reduceCtorEq,eb,f10,f11,iy];rcases acc with ⟨a1,a2⟩|⟨a1,a2,a3⟩
    ·simp only[go_sem,a1,a2,Cm]
    ·have he:PS.els s' 34 (s'.ver 34)=some (4,(fl ls).map Bk):=by unfold PS.els;rw[if_pos rfl,a3]
     rw[Cm,if_neg a1,a2];simp only[go_sem,a3,ae]
 exact main.Qe Jf
end
def Ki(met:List Ed)(e:Ed):Bool:=met.any fun f=>Vp e f
def cM(e:Ed):D×C:=(.agg (Bk e),.d (.bool true))
theorem ap2(e f:Ed):Cs (.row [.int,.int,.int,.int]) (.agg (Bk e)) (.agg (Bk f))=some (Vp e f):=by
 simp[Cs,Bk,yr,Ls,Vp]
theorem Zs(e:Ed)(met:List Ed):Fi (.row [.int,.int,.int,.int]) (.agg (Bk e)) (met.map cM)=some (if Ki met e then some (C.d (.bool true))else none):=by
 induction met with
 |nil=>rfl
 |cons f r ih=>
  simp only[cu]
  show(match Cs (.row [.int,.int,.int,.int]) (.agg (Bk e)) (.agg (Bk f))with|some true=>_|some false=>_|none=>_)=_
  rw[ap2];unfold Ki at ih⊢;rw[aG0];cases Vp e f
  ·simp only[ih,Mz]
  ·simp
theorem amx(e:Ed)(met:List Ed)(h:Ki met e=false):Kh (.row [.int,.int,.int,.int]) (.agg (Bk e)) (C.d (.bool true)) (met.map cM)=some ((met++[e]).map cM):=by
 induction met with
 |nil=>rfl
 |cons f r ih=>
  simp only[cu,vp]
  show(match Cs (.row [.int,.int,.int,.int]) (.agg (Bk e)) (.agg (Bk f))with|some true=>_|some false=>_|none=>_)=_
  rw[ap2];unfold Ki at h ih;rw[aG0,P6]at h;rw[h.1];simp only[ih h.2,gz];rfl
def a73(e:Ed):Ed:=(e.2,e.1)
def a08(es:List Ed)(i:Nat):Bool:= !ru (es.getD i e0).1 (es.getD i e0).2&&(!Ki (es.take i) (es.getD i e0)&& !Ki (es.take i) (a73 (es.getD i e0)))
def Xv(es:List Ed)(i k:Nat):Bool:= !abh (es.getD i e0) (es.getD k e0).1&& !(decide (k<i)&&Km (es.getD i e0) (es.getD k e0))
def P7(es:List Ed):Bool:=(cq es.length).all (a08 es)&&(cq es.length).all fun i=>(cq es.length).all (Xv es i)
section
variable{P:Program}(A:Pr P)
theorem alw(es:List Ed)(h1:es.length≤1000)(h2:∀e∈es,SmL e.1∧SmL e.2):fp P A.zg [Oy es] (.bool (P7 es)):=by
 refine cy A.mo A.X5 (by simp) ?_
 show jd P (Is A.sg A.pq) (kf _ _) _;unfold P7;simp only[Is,Oy,go_sem,aa,reduceCtorEq,ae]
 refine rv (fun s'=>s'.base=0∧s'.tmp 0= .d (.dt 4 (es.map Bk))∧(cq es.length).all (a08 es)=true) ?_ ?_
 ·refine dq es.length (fun i s'=>s'.base=0∧s'.tmp 0= .d (.dt 4 (es.map Bk))∧s'.tmp 3= .ku 10 (s'.ver 10)∧s'.mp 10=some ((es.take i).map cM)∧s'.tmp 11= .d (.dt 4 (es.map Bk))∧s'.tmp 12= .d (.int .i64 es.length)∧s'.tmp 13= .d (.int .i64 i)∧∀i',i'<i→a08 es i'=true) ?_ ?_
  ·simp only[go_sem,aa,reduceCtorEq]
   intro i' Dx;omega
  ·rintro i s' hi ⟨eb,f0,f3,m3,f11,f12,f13,hI⟩
   by_cases iy:(i:Int)<es.length
   ·have cj:i<es.length:=by omega
    have wi:=br ((i:Int)+1) (by omega) (by omega)
    have hg:=Bn cj
    have hge:es.getD i e0=es[i]:=by simp[bn,cj]
    have htk:es.take (i+1)=es.take i++[es.getD i e0]:=by rw[ey,hge];simp[cj]
    have C4:a08 es i=(!ru (es.getD i e0).1 (es.getD i e0).2&&(!Ki (es.take i) (es.getD i e0)&& !Ki (es.take i) (a73 (es.getD i e0)))):=rfl
    have no:a08 es i=false→((cq es.length).all (a08 es)&&(cq es.length).all fun i=>(cq es.length).all (Xv es i))=false:=fun h=>by rw[all_false cj h,cz]
    generalize es.getD i e0=e at*
    have l1:=Zs e (es.take i);have l2:=Zs (a73 e) (es.take i);simp only[Bk,a73]at l1 l2;simp only[go_sem,aa,bx,df,da,de,ab,ag,reduceCtorEq,eb,f11,f12,f13,iy,hg,toNat_cast,aj,F9];cases c1:ru e.1 e.2
    ·have c1':=c1
     unfold ru at c1';cases c2:Ki (es.take i) e
     ·cases c3:Ki (es.take i) (a73 e)
      ·have c3':=c3
       simp only[a73]at c3';have pd:=amx e (es.take i) c2;simp only[Bk]at pd;simp only[go_sem,aa,bx,df,da,de,ab,ag,reduceCtorEq,f0,f3,m3,f11,f12,f13,c1',c2,c3',I2,PS.ents,l1,l2,pd,wi,cj,htk]
       exact⟨by simp,og hI (by rw[C4,c1,c2,c3];rfl)⟩
      ·have c3':=c3
       simp only[a73]at c3';simp only[go_sem,aa,bx,df,da,de,ab,ag,f3,m3,c1',c2,c3',I2,PS.ents,l1,l2]
       rw[no (by rw[C4,c3];simp)]
     ·simp only[go_sem,aa,ab,f3,m3,c1',c2,I2,PS.ents,l1]
      rw[no (by rw[C4,c2];simp)]
    ·have c1':=c1
     unfold ru at c1';simp only[go_sem,aa,c1']
     rw[no (by rw[C4,c1];simp)]
   ·have:i=es.length:=by omega
    subst this;simp only[go_sem,reduceCtorEq,eb,f0,f12,f13,iy];exact all_true hI
 ·rintro s' ⟨eb,f0,ha⟩
  rw[ha,qu];simp only[go_sem,f0,ae]
  refine dq es.length (fun i s'=>s'.base=0∧s'.tmp 0= .d (.dt 4 (es.map Bk))∧s'.tmp 39= .d (.dt 4 (es.map Bk))∧s'.tmp 40= .d (.int .i64 es.length)∧s'.tmp 41= .d (.int .i64 i)∧∀i',i'<i→(cq es.length).all (Xv es i')=true) ?_ ?_
  ·simp only[go_sem,aa,reduceCtorEq,eb,f0]
   try simp
  ·clear eb f0
   rintro i s' hi ⟨eb,f0,f39,f40,f41,hI⟩;by_cases iy:(i:Int)<es.length
   ·have cj:i<es.length:=by omega
    have wi:=br ((i:Int)+1) (by omega) (by omega)
    have hg:=Bn cj
    have hge:es.getD i e0=es[i]:=by simp[bn,cj]
    obtain⟨q1,q2⟩:=h2 _ (bz cj);rw[←hge]at q1 q2
    have no:∀k,k<es.length→Xv es i k=false→((cq es.length).all fun i=>(cq es.length).all (Xv es i))=false:=fun k hk h=>all_false cj (all_false hk h)
    have C4:∀k,Xv es i k=(!abh (es.getD i e0) (es.getD k e0).1&& !(decide (k<i)&&Km (es.getD i e0) (es.getD k e0))):=fun _=>rfl
    generalize es.getD i e0=e at*
    simp only[go_sem,aa,ab,reduceCtorEq,eb,f0,f39,f40,f41,iy,hg,toNat_cast,aj,ae]
    refine dq es.length (fun k s'=>s'.base=0∧s'.tmp 0= .d (.dt 4 (es.map Bk))∧s'.tmp 39= .d (.dt 4 (es.map Bk))∧s'.tmp 40= .d (.int .i64 es.length)∧s'.tmp 41= .d (.int .i64 i)∧s'.tmp 6= .d (.int .i64 i)∧s'.tmp 7= .dv 7 (s'.ver 7) 0∧s'.bm 7=some (.loc [.d (.int .i64 e.1.1),.d (.int .i64 e.1.2),.d (.int .i64 e.2.1),.d (.int .i64 e.2.2)])∧
     s'.tmp 46= .d (.dt 4 (es.map Bk))∧s'.tmp 47= .d (.int .i64 es.length)∧s'.tmp 48= .d (.int .i64 k)∧∀k',k'<k→Xv es i k'=true) ?_ ?_
    ·simp only[go_sem,aa,reduceCtorEq,f0,f39,f40,f41]
     try simp
    ·clear eb f0 f39 f40 f41
     rintro k s' hk ⟨eb,f0,f39,f40,f41,f6,f7,b7,f46,f47,f48,hK⟩;by_cases Ch:(k:Int)<es.length
     ·have mq:k<es.length:=by omega
      have wk:=br ((k:Int)+1) (by omega) (by omega)
      have hgk:=Bn mq
      have aCc:es.getD k e0=es[k]:=by simp[bn,mq]
      obtain⟨p1,p2⟩:=h2 _ (bz mq);rw[←aCc]at p1 p2;have nok:=no k mq;have asy:=C4 k
      generalize es.getD k e0=f at*
      have ch:=avg A q1 q2 p1;have cc:=aik A q1 q2 p1 p2;simp only[dEd,vt]at ch cc;simp only[go_sem,aa,bx,ab,ag,reduceCtorEq,eb,f7,b7,f46,f47,f48,Ch,hgk,toNat_cast,aj];refine gf ch ?_;cases c1:abh e f.1
      ·by_cases c2:(k:Int)<i
       ·have c2':k<i:=by omega
        simp only[go_sem,aa,ab,reduceCtorEq,f6,f7,b7,c2];refine gf cc ?_;cases c3:Km e f
        ·simp only[go_sem,aa,reduceCtorEq,f0,f39,f40,f41,f6,f7,b7,f46,f47,f48,wk,mq]
         exact⟨by simp,og hK (by rw[asy,c1,c3];simp)⟩
        ·simp only[go_sem,aa]
         rw[nok (by rw[asy,c3,decide_eq_true c2'];simp)]
       ·have c2':¬k<i:=by omega
        simp only[go_sem,aa,reduceCtorEq,f0,f39,f40,f41,f6,f7,b7,f46,f47,f48,c2,wk,mq]
        exact⟨by simp,og hK (by rw[asy,c1,decide_eq_false c2'];simp)⟩
      ·simp only[go_sem,aa]
       rw[nok (by rw[asy,c1];simp)]
     ·have:k=es.length:=by omega
      subst this;simp only[go_sem,aa,reduceCtorEq,eb,f0,f39,f40,f41,f47,f48,Ch,wi,cj]
      exact⟨by simp,og hI (all_true hK)⟩
   ·have:i=es.length:=by omega
    subst this;simp only[go_sem,aa,reduceCtorEq,eb,f40,f41,iy];rw[all_true hI]
end
def vw(sw:Bool)(p:Sp):Sp:=if sw then(p.2,p.1)else p
def seen(sw:Bool)(m p:Sp):Sp:=(2*(vw sw p).1-(vw sw m).1,2*(vw sw p).2-(vw sw m).2)
def Ys(sw:Bool)(m:Sp)(f:Ed):Int:=
 if decide (0<(seen sw m f.1).2)==decide (0<(seen sw m f.2).2)then 0
 else if decide (0<di (seen sw m f.1) (seen sw m f.2))==decide ((seen sw m f.1).2<(seen sw m f.2).2)then(if(seen sw m f.1).2<(seen sw m f.2).2 then 1 else-1)else 0
def swE(e:Ed):Bool:=e.1.2==e.2.2
def wAt(es:List Ed)(i k:Nat):Int:=if k=i then 0 else Ys (swE (es.getD i e0)) (r9 (es.getD i e0)) (es.getD k e0)
def V6(es:List Ed)(i:Nat):Int:=
 (if swE (es.getD i e0)then-(nf (wAt es i) es.length)else nf (wAt es i) es.length)+
  (if decide ((vw (swE (es.getD i e0)) (es.getD i e0).1).2<(vw (swE (es.getD i e0)) (es.getD i e0).2).2)== !swE (es.getD i e0)then 1 else 0)
def Pv(es:List Ed):Bool:=(cq es.length).all fun i=>V6 es i==1
theorem av6(sw:Bool)(m:Sp)(f:Ed): -1≤Ys sw m f∧Ys sw m f≤1:=by unfold Ys;split<;>(try split)<;>(try split)<;>omega
theorem axz(es:List Ed)(i k:Nat): -1≤wAt es i k∧wAt es i k≤1:=by
 unfold wAt;split
 ·omega
 ·exact av6 _ _ _
def On(v:Sp):Int:=if decide (0<v.2)||(v.2==0&&decide (0<v.1))then 0 else 1
def vz(u v:Sp):Int:=if On u=On v then-(di u v)else On u-On v
theorem ah7(v:Sp):On v=0∨On v=1:=by unfold On;split<;>simp
theorem ap9{u v:Sp}(hu:SmP u)(hv:SmP v): -800000000≤di u v∧di u v≤800000000:=by
 obtain⟨⟨a1,a2⟩,a3,a4⟩:=hu;obtain⟨⟨b1,b2⟩,b3,b4⟩:=hv
 have m1:=a3i (x:=u.1) (y:=v.2) (by omega) (by omega)
 have m2:=a3i (x:=u.2) (y:=v.1) (by omega) (by omega)
 unfold di;omega
section
variable{P:Program}(A:Pr P)
theorem am2(v:Sp):fp P A.zy [vt v] (.int .i64 (On v)):=by
 refine cy A.mo A.a1j (by simp) ?_
 show jd P Bq (kf _ _) _;unfold On;by_cases h1:0<v.2
 ·simp only[Bq,vt,go_sem,aa,bx,df,da,de,ab,reduceCtorEq,h1,Jh]
 ·cases h2:v.2==0
  ·simp only[Bq,vt,go_sem,aa,bx,df,da,de,ab,reduceCtorEq,h1,h2,cz,Sq]
  ·by_cases h3:0<v.1
   ·simp only[Bq,vt,go_sem,aa,bx,df,da,de,ab,ag,reduceCtorEq,h1,h2,h3,aF0]
   ·simp only[Bq,vt,go_sem,aa,bx,df,da,de,ab,ag,reduceCtorEq,h1,h2,h3,Sq]
theorem agp{u v:Sp}(hu:SmP u)(hv:SmP v):fp P A.qy [vt u,vt v] (.int .i64 (vz u v)):=by
 refine cy A.mo A.Z7 (by simp) ?_
 show jd P (K8 A.zy A.ib) (kf _ _) _;have h1:=am2 A u;have h2:=am2 A v;have h3:=Oe A hu hv;have hb:=ap9 hu hv
 have w1:=br (0-di u v) (by omega) (by omega)
 have e1:(0:Int)-di u v= -(di u v):=by omega
 rw[e1]at w1;simp only[vt]at h1 h2 h3;unfold vz;simp only[K8,vt,go_sem,aa,ab];refine ee h1 ?_;simp only[go_sem,aa,ab];refine ee h2 ?_;rcases ah7 u with a|a<;>rcases ah7 v with b|b
 ·simp only[go_sem,aa,aF8,ab,reduceCtorEq,a,b,bne_self_eq_false]
  refine gf h3 ?_;simp only[go_sem,aa,w1,e1]
 ·have:((0:Int) !=1)=true:=rfl
  have w:=br ((0:Int)-1) (by omega) (by omega)
  simp only[go_sem,aa,aF8,Int.reduceEq,bc,reduceCtorEq,a,b,this]
  try rfl
 ·have:((1:Int) !=0)=true:=rfl
  simp only[go_sem,aa,aF8,Int.reduceEq,reduceCtorEq,a,b,this]
  try rfl
 ·simp only[go_sem,aa,aF8,ab,reduceCtorEq,a,b,bne_self_eq_false]
  refine gf h3 ?_;simp only[go_sem,aa,w1,e1]
def O5(es:List Ed)(i:Nat)(e:Ed)(sw:Bool)(s':PS):Prop:=
 s'.base=0∧s'.tmp 0= .d (.dt 4 (es.map Bk))∧s'.tmp 3= .d (.int .i64 i)∧s'.tmp 4= .dv 4 (s'.ver 4) 0∧s'.bm 4=some (.loc [.d (.int .i64 e.1.1),.d (.int .i64 e.1.2),.d (.int .i64 e.2.1),.d (.int .i64 e.2.2)])∧
 s'.tmp 5= .dv 5 (s'.ver 5) 0∧s'.bm 5=some (.loc [.d (.int .i64 (e.1.1+e.2.1)),.d (.int .i64 (e.1.2+e.2.2))])∧s'.tmp 6= .d (.int .i64 (if sw then 1 else 0))∧s'.tmp 7= .d (.int .i64 (if sw then 0 else 1))∧
 s'.tmp 16= .d (.dt 4 (es.map Bk))∧s'.tmp 17= .d (.int .i64 es.length)∧s'.tmp 18= .d (.int .i64 i)
def afy(f:Nat):cn:=
 (.seq (
           (.block 3 (
            (.seq (
            .region [⟨some 49,.ij (.t 47),none,[]⟩,
             ⟨some 50,.te 4 (.t 45) (.t 47),none,[]⟩,
             ⟨some 51,.load 4 true (.t 50),none,[]⟩,
             ⟨some 10,.alloc [(.int .i64 0),(.int .i64 0),(.int .i64 0),(.int .i64 0)],none,[]⟩,
             ⟨some 9,.ij (.t 49),none,[]⟩,
             ⟨none,.store 4 (.t 10) (.t 51),none,[]⟩] false []) (
            (.seq (
             .region [⟨some 52,.ij (.t 6),none,[]⟩,
              ⟨some 53,.tf 2 2 (.t 10) (.c (.int .i64 0)),none,[]⟩,
              ⟨some 54,.tf 2 1 (.t 53) (.t 52),none,[]⟩,
              ⟨some 55,.load 1 false (.t 54),none,[]⟩,
              ⟨some 56,.bin .mul (.c (.int .i64 2)) (.t 55),none,[]⟩,
              ⟨some 57,.ij (.t 6),none,[]⟩,
              ⟨some 58,.tf 2 1 (.t 5) (.t 57),none,[]⟩,
              ⟨some 59,.load 1 false (.t 58),none,[]⟩,
              ⟨some 60,.bin .sub (.t 56) (.t 59),none,[]⟩,
              ⟨some 61,.ij (.t 7),none,[]⟩,
              ⟨some 62,.tf 2 2 (.t 10) (.c (.int .i64 0)),none,[]⟩,
              ⟨some 63,.tf 2 1 (.t 62) (.t 61),none,[]⟩,
              ⟨some 64,.load 1 false (.t 63),none,[]⟩,
              ⟨some 65,.bin .mul (.c (.int .i64 2)) (.t 64),none,[]⟩,
              ⟨some 66,.ij (.t 7),none,[]⟩,
              ⟨some 67,.tf 2 1 (.t 5) (.t 66),none,[]⟩,
              ⟨some 68,.load 1 false (.t 67),none,[]⟩,
              ⟨some 69,.bin .sub (.t 65) (.t 68),none,[]⟩,
              ⟨some 70,.build [(.int .i64 0),(.int .i64 0)] [(0,1,(.t 60)),(1,1,(.t 69))],none,[]⟩,
              ⟨some 71,.ij (.t 6),none,[]⟩,
              ⟨some 72,.tf 2 2 (.t 10) (.c (.int .i64 1)),none,[]⟩,
              ⟨some 73,.tf 2 1 (.t 72) (.t 71),none,[]⟩,
              ⟨some 74,.load 1 false (.t 73),none,[]⟩,
              ⟨some 75,.bin .mul (.c (.int .i64 2)) (.t 74),none,[]⟩,
              ⟨some 76,.ij (.t 6),none,[]⟩,
              ⟨some 77,.tf 2 1 (.t 5) (.t 76),none,[]⟩,
              ⟨some 78,.load 1 false (.t 77),none,[]⟩,
              ⟨some 79,.bin .sub (.t 75) (.t 78),none,[]⟩,
              ⟨some 80,.ij (.t 7),none,[]⟩,
              ⟨some 81,.tf 2 2 (.t 10) (.c (.int .i64 1)),none,[]⟩,
              ⟨some 82,.tf 2 1 (.t 81) (.t 80),none,[]⟩,
              ⟨some 83,.load 1 false (.t 82),none,[]⟩,
              ⟨some 84,.bin .mul (.c (.int .i64 2)) (.t 83),none,[]⟩,
              ⟨some 85,.ij (.t 7),none,[]⟩,
              ⟨some 86,.tf 2 1 (.t 5) (.t 85),none,[]⟩,
              ⟨some 87,.load 1 false (.t 86),none,[]⟩,
              ⟨some 88,.bin .sub (.t 84) (.t 87),none,[]⟩,
              ⟨some 89,.build [(.int .i64 0),(.int .i64 0)] [(0,1,(.t 79)),(1,1,(.t 88))],none,[]⟩,
              ⟨some 11,.w8 2,none,[]⟩,
              ⟨some 12,.w8 2,none,[]⟩,
              ⟨none,.init 11 2 (.t 70),none,[]⟩,
              ⟨none,.init 12 2 (.t 89),none,[]⟩] true []) (
             (.seq (
             (.seq (
              .region [⟨some 90,.ij (.t 9),none,[]⟩,
               ⟨some 91,.ij (.t 3),none,[]⟩,
               ⟨some 92,.bin .eql (.t 90) (.t 91),none,[]⟩,
               ⟨some 93,.ij (.t 92),none,[]⟩,
               ⟨some 94,.tf 2 1 (.t 11) (.c (.int .i64 1)),some (93,false),[]⟩,
               ⟨some 95,.load 1 false (.t 94),some (93,false),[]⟩,
               ⟨some 96,.bin .gtr (.t 95) (.c (.int .i64 0)),some (93,false),[]⟩,
               ⟨some 97,.tf 2 1 (.t 12) (.c (.int .i64 1)),some (93,false),[]⟩,
               ⟨some 98,.load 1 false (.t 97),some (93,false),[]⟩,
               ⟨some 99,.bin .gtr (.t 98) (.c (.int .i64 0)),some (93,false),[]⟩,
               ⟨some 100,.beq false (.t 96) (.t 99),some (93,false),[]⟩,
               ⟨some 101,.pick (.t 93) (.c (.bool true)) (.t 100),none,[]⟩] false []) (
              (.cond (.t 101) (
              .exit 3) (
              .skip))))) (
             (.seq (
              .region [⟨some 102,.tf 2 1 (.t 12) (.c (.int .i64 1)),none,[]⟩,
               ⟨some 103,.load 1 false (.t 102),none,[]⟩,
               ⟨some 104,.tf 2 1 (.t 11) (.c (.int .i64 1)),none,[]⟩,
               ⟨some 105,.load 1 false (.t 104),none,[]⟩,
               ⟨some 106,.bin .gtr (.t 103) (.t 105),none,[]⟩,
               ⟨some 13,.ij (.t 106),none,[]⟩] false []) (
              (.seq (
              .region [⟨some 107,.load 2 true (.t 11),none,[]⟩,
               ⟨some 108,.load 2 true (.t 12),none,[]⟩,
               ⟨some 109,.call f [(.t 107),(.t 108)],none,[]⟩,
               ⟨some 110,.bin .gtr (.t 109) (.c (.int .i64 0)),none,[]⟩,
               ⟨some 111,.ij (.t 13),none,[]⟩,
               ⟨some 112,.beq false (.t 110) (.t 111),none,[]⟩] false []) (
              (.cond (.t 112) (
               (.seq (
               .region [⟨some 113,.ij (.t 13),none,[]⟩] false []) (
               (.cond (.t 113) (
                .region [⟨some 114,.ij (.t 8),none,[]⟩,
                 ⟨some 115,.bin .add (.t 114) (.c (.int .i64 1)),none,[]⟩,
                 ⟨some 8,.ij (.t 115),none,[]⟩] false []) (
                .region [⟨some 116,.ij (.t 8),none,[]⟩,
                 ⟨some 117,.bin .sub (.t 116) (.c (.int .i64 1)),none,[]⟩,
                 ⟨some 8,.ij (.t 117),none,[]⟩] false []))))) (
               .skip))))))))))))))) (
           .region [⟨some 118,.bin .add (.t 47) (.c (.int .i64 1)),none,[]⟩,
            ⟨some 47,.ij (.t 118),none,[]⟩] false []))
theorem ari{es:List Ed}{i k:Nat}{e f:Ed}{sw:Bool}{n:Int}(hk:k<es.length)(hf:es.getD k e0=f)(hi:i≤1000)(hk2:k≤1000)(he:ag4 e)(hfs:ag4 f)(hn: -2000≤n∧n≤2000){s':PS}{Q:Exit→PS→Prop}
  (h:O5 es i e sw s')(f45:s'.tmp 45= .d (.dt 4 (es.map Bk)))(f46:s'.tmp 46= .d (.int .i64 es.length))(f47:s'.tmp 47= .d (.int .i64 k))(f8:s'.tmp 8= .d (.int .i64 n))
  (hQ:∀s3,O5 es i e sw s3→s3.tmp 45= .d (.dt 4 (es.map Bk))→s3.tmp 46= .d (.int .i64 es.length)→s3.tmp 47= .d (.int .i64 (k+1:Nat))→s3.tmp 8= .d (.int .i64 (n+if k=i then 0 else Ys sw (r9 e) f))→Q .normal s3):
  jd P (afy A.ib) Q s':=by
 unfold afy;obtain⟨eb,f0,f3,f4,b4,f5,b5,f6,f7,f16,f17,f18⟩:=h;obtain⟨⟨a1,a2⟩,⟨a3,a4⟩,⟨a5,a6⟩,a7,a8⟩:=he;obtain⟨⟨d1,d2⟩,⟨d3,d4⟩,⟨d5,d6⟩,d7,d8⟩:=hfs
 have iy:(k:Int)<es.length:=by omega
 have hg:=Bn hk;rw[hf]at hg
 have wk:=br ((k:Int)+1) (by omega) (by omega)
 have x1:=br (2*f.1.1) (by omega) (by omega)
 have x2:=br (2*f.1.2) (by omega) (by omega)
 have x3:=br (2*f.2.1) (by omega) (by omega)
 have x4:=br (2*f.2.2) (by omega) (by omega)
 have y1:=br (2*f.1.1-(e.1.1+e.2.1)) (by omega) (by omega)
 have y2:=br (2*f.1.2-(e.1.2+e.2.2)) (by omega) (by omega)
 have y3:=br (2*f.2.1-(e.1.1+e.2.1)) (by omega) (by omega)
 have y4:=br (2*f.2.2-(e.1.2+e.2.2)) (by omega) (by omega)
 have z1:=br (n+1) (by omega) (by omega)
 have z2:=br (n-1) (by omega) (by omega)
 have fin:∀(s3:PS) (x:Int),O5 es i e sw s3→s3.tmp 45= .d (.dt 4 (es.map Bk))→s3.tmp 46= .d (.int .i64 es.length)→s3.tmp 47= .d (.int .i64 ((k:Int)+1))→s3.tmp 8= .d (.int .i64 x)→x=n+(if k=i then 0 else Ys sw (r9 e) f)→Q .normal s3:=fun s3 x h1 h2 h3 h4 h5 h6=>hQ s3 h1 h2 h3 (by simpa using h4) (by rw[←h6];exact h5)
 cases sw
 ·have hc:=Oe A (u:=(2*f.1.1-(e.1.1+e.2.1),2*f.1.2-(e.1.2+e.2.2))) (v:=(2*f.2.1-(e.1.1+e.2.1),2*f.2.2-(e.1.2+e.2.2))) ⟨⟨by simp only;omega,by simp only;omega⟩,by simp only;omega,by simp only;omega⟩ ⟨⟨by simp only;omega,by simp only;omega⟩,by simp only;omega,by simp only;omega⟩
  have hw:Ys false (r9 e) f=if decide (0<2*f.1.2-(e.1.2+e.2.2))==decide (0<2*f.2.2-(e.1.2+e.2.2))then 0 else if decide (0<di (2*f.1.1-(e.1.1+e.2.1),2*f.1.2-(e.1.2+e.2.2)) (2*f.2.1-(e.1.1+e.2.1),2*f.2.2-(e.1.2+e.2.2)))==decide (2*f.1.2-(e.1.2+e.2.2)<2*f.2.2-(e.1.2+e.2.2))then(if 2*f.1.2-(e.1.2+e.2.2)<2*f.2.2-(e.1.2+e.2.2)then 1 else-1)else 0:=rfl
  rw[hw]at fin;generalize di (2*f.1.1-(e.1.1+e.2.1),2*f.1.2-(e.1.2+e.2.2)) (2*f.2.1-(e.1.1+e.2.1),2*f.2.2-(e.1.2+e.2.2))=cr at hc fin;simp only[vt]at hc
  generalize hp1:2*f.1.1-(e.1.1+e.2.1)=p1 at*
  generalize hp2:2*f.1.2-(e.1.2+e.2.2)=p2 at*
  generalize hp3:2*f.2.1-(e.1.1+e.2.1)=p3 at*
  generalize hp4:2*f.2.2-(e.1.2+e.2.2)=p4 at*
  simp only[reduceIte,ec]at f6 f7;by_cases c0:k=i
  ·subst c0
   simp only[go_sem,aa,bx,df,da,de,ab,ag,reduceCtorEq,eb,f3,f5,b5,f6,f7,f45,f47,hg,toNat_cast,aj,x1,x2,x3,x4,y1,y2,y3,y4,hp1,hp2,hp3,hp4,beq_self_eq_true,wk];refine fin _ n ?_ ?_ ?_ ?_ ?_ ?_
   all_goals first|(simp only[O5,go_sem,aa,bc,reduceCtorEq,f0,f3,f4,b4,f5,b5,f6,f7,f8,f16,f17,f18,f45,f46,f47];done)|simp
  ·have c0':((k:Int)==i)=false:=by simp;omega
   rw[if_neg c0]at fin;cases c1:(decide (0<p2)==decide (0<p4))
   ·cases c2:(decide (0<cr)==decide (p2<p4))
    ·simp only[go_sem,aa,bx,df,da,de,ab,ag,reduceCtorEq,eb,f3,f5,b5,f6,f7,f45,f47,hg,toNat_cast,aj,x1,x2,x3,x4,y1,y2,y3,y4,hp1,hp2,hp3,hp4,c0',c1]
     refine gf hc ?_;simp only[go_sem,aa,reduceCtorEq,f47,c2,wk];refine fin _ n ?_ ?_ ?_ ?_ ?_ ?_
     all_goals first|(simp only[O5,go_sem,aa,reduceCtorEq,f0,f3,f4,b4,f5,b5,f6,f7,f8,f16,f17,f18,f45,f46,f47];done)|simp[c1,c2]
    ·by_cases c3:p2<p4
     ·have c4:0<cr:=by simpa[c3]using c2
      simp only[go_sem,aa,bx,df,da,de,ab,ag,reduceCtorEq,eb,f3,f5,b5,f6,f7,f45,f47,hg,toNat_cast,aj,x1,x2,x3,x4,y1,y2,y3,y4,hp1,hp2,hp3,hp4,c0',c1];refine gf hc ?_;simp only[go_sem,aa,reduceCtorEq,f8,f47,c3,c4,beq_self_eq_true,wk,z1];refine fin _ (n+1) ?_ ?_ ?_ ?_ ?_ ?_
      all_goals first|(simp only[O5,go_sem,aa,reduceCtorEq,f0,f3,f4,b4,f5,b5,f6,f7,f8,f16,f17,f18,f45,f46,f47];done)|simp[c1,c3,c4]
     ·have c4:¬0<cr:=by simpa[c3]using c2
      simp only[go_sem,aa,bx,df,da,de,ab,ag,reduceCtorEq,eb,f3,f5,b5,f6,f7,f45,f47,hg,toNat_cast,aj,x1,x2,x3,x4,y1,y2,y3,y4,hp1,hp2,hp3,hp4,c0',c1];refine gf hc ?_;simp only[go_sem,aa,reduceCtorEq,f8,f47,c3,c4,beq_self_eq_true,wk,z2];refine fin _ (n-1) ?_ ?_ ?_ ?_ ?_ ?_
      all_goals first|(simp only[O5,go_sem,aa,reduceCtorEq,f0,f3,f4,b4,f5,b5,f6,f7,f8,f16,f17,f18,f45,f46,f47];done)|(simp[c1,c3,c4];try omega)
   ·simp only[go_sem,aa,bx,df,da,de,ab,ag,reduceCtorEq,eb,f3,f5,b5,f6,f7,f45,f47,hg,toNat_cast,aj,x1,x2,x3,x4,y1,y2,y3,y4,hp1,hp2,hp3,hp4,c0',c1,wk]
    refine fin _ n ?_ ?_ ?_ ?_ ?_ ?_
    all_goals first|(simp only[O5,go_sem,aa,reduceCtorEq,f0,f3,f4,b4,f5,b5,f6,f7,f8,f16,f17,f18,f45,f46,f47];done)|simp[c1]
 ·have hc:=Oe A (u:=(2*f.1.2-(e.1.2+e.2.2),2*f.1.1-(e.1.1+e.2.1))) (v:=(2*f.2.2-(e.1.2+e.2.2),2*f.2.1-(e.1.1+e.2.1))) ⟨⟨by simp only;omega,by simp only;omega⟩,by simp only;omega,by simp only;omega⟩ ⟨⟨by simp only;omega,by simp only;omega⟩,by simp only;omega,by simp only;omega⟩
  have hw:Ys true (r9 e) f=if decide (0<2*f.1.1-(e.1.1+e.2.1))==decide (0<2*f.2.1-(e.1.1+e.2.1))then 0 else if decide (0<di (2*f.1.2-(e.1.2+e.2.2),2*f.1.1-(e.1.1+e.2.1)) (2*f.2.2-(e.1.2+e.2.2),2*f.2.1-(e.1.1+e.2.1)))==decide (2*f.1.1-(e.1.1+e.2.1)<2*f.2.1-(e.1.1+e.2.1))then(if 2*f.1.1-(e.1.1+e.2.1)<2*f.2.1-(e.1.1+e.2.1)then 1 else-1)else 0:=rfl
  rw[hw]at fin;generalize di (2*f.1.2-(e.1.2+e.2.2),2*f.1.1-(e.1.1+e.2.1)) (2*f.2.2-(e.1.2+e.2.2),2*f.2.1-(e.1.1+e.2.1))=cr at hc fin;simp only[vt]at hc
  generalize hp1:2*f.1.2-(e.1.2+e.2.2)=p1 at*
  generalize hp2:2*f.1.1-(e.1.1+e.2.1)=p2 at*
  generalize hp3:2*f.2.2-(e.1.2+e.2.2)=p3 at*
  generalize hp4:2*f.2.1-(e.1.1+e.2.1)=p4 at*
  simp only[reduceIte]at f6 f7;by_cases c0:k=i
  ·subst c0
   simp only[go_sem,aa,bx,df,da,de,ab,ag,reduceCtorEq,eb,f3,f5,b5,f6,f7,f45,f47,hg,toNat_cast,aj,x1,x2,x3,x4,y1,y2,y3,y4,hp1,hp2,hp3,hp4,beq_self_eq_true,wk];refine fin _ n ?_ ?_ ?_ ?_ ?_ ?_
   all_goals first|(simp only[O5,go_sem,aa,bc,reduceCtorEq,f0,f3,f4,b4,f5,b5,f6,f7,f8,f16,f17,f18,f45,f46,f47];done)|simp
  ·have c0':((k:Int)==i)=false:=by simp;omega
   rw[if_neg c0]at fin;cases c1:(decide (0<p2)==decide (0<p4))
   ·cases c2:(decide (0<cr)==decide (p2<p4))
    ·simp only[go_sem,aa,bx,df,da,de,ab,ag,reduceCtorEq,eb,f3,f5,b5,f6,f7,f45,f47,hg,toNat_cast,aj,x1,x2,x3,x4,y1,y2,y3,y4,hp1,hp2,hp3,hp4,c0',c1]
     refine gf hc ?_;simp only[go_sem,aa,reduceCtorEq,f47,c2,wk];refine fin _ n ?_ ?_ ?_ ?_ ?_ ?_
     all_goals first|(simp only[O5,go_sem,aa,reduceCtorEq,f0,f3,f4,b4,f5,b5,f6,f7,f8,f16,f17,f18,f45,f46,f47];done)|simp[c1,c2]
    ·by_cases c3:p2<p4
     ·have c4:0<cr:=by simpa[c3]using c2
      simp only[go_sem,aa,bx,df,da,de,ab,ag,reduceCtorEq,eb,f3,f5,b5,f6,f7,f45,f47,hg,toNat_cast,aj,x1,x2,x3,x4,y1,y2,y3,y4,hp1,hp2,hp3,hp4,c0',c1];refine gf hc ?_;simp only[go_sem,aa,reduceCtorEq,f8,f47,c3,c4,beq_self_eq_true,wk,z1];refine fin _ (n+1) ?_ ?_ ?_ ?_ ?_ ?_
      all_goals first|(simp only[O5,go_sem,aa,reduceCtorEq,f0,f3,f4,b4,f5,b5,f6,f7,f8,f16,f17,f18,f45,f46,f47];done)|simp[c1,c3,c4]
     ·have c4:¬0<cr:=by simpa[c3]using c2
      simp only[go_sem,aa,bx,df,da,de,ab,ag,reduceCtorEq,eb,f3,f5,b5,f6,f7,f45,f47,hg,toNat_cast,aj,x1,x2,x3,x4,y1,y2,y3,y4,hp1,hp2,hp3,hp4,c0',c1];refine gf hc ?_;simp only[go_sem,aa,reduceCtorEq,f8,f47,c3,c4,beq_self_eq_true,wk,z2];refine fin _ (n-1) ?_ ?_ ?_ ?_ ?_ ?_
      all_goals first|(simp only[O5,go_sem,aa,reduceCtorEq,f0,f3,f4,b4,f5,b5,f6,f7,f8,f16,f17,f18,f45,f46,f47];done)|(simp[c1,c3,c4];try omega)
   ·simp only[go_sem,aa,bx,df,da,de,ab,ag,reduceCtorEq,eb,f3,f5,b5,f6,f7,f45,f47,hg,toNat_cast,aj,x1,x2,x3,x4,y1,y2,y3,y4,hp1,hp2,hp3,hp4,c0',c1,wk]
    refine fin _ n ?_ ?_ ?_ ?_ ?_ ?_
    all_goals first|(simp only[O5,go_sem,aa,reduceCtorEq,f0,f3,f4,b4,f5,b5,f6,f7,f8,f16,f17,f18,f45,f46,f47];done)|simp[c1]
end
theorem ad7(f:Nat→Int)(k:Nat):nf f (k+1)=nf f k+f k:=rfl
section
variable{P:Program}(A:Pr P)
theorem am4(es:List Ed)(h1:es.length≤1000)(h2:∀e∈es,SmL e.1∧SmL e.2):fp P A.zh [Oy es] (.bool (Pv es)):=by
 refine cy A.mo A.X7 (by simp) ?_
 show jd P (Iu A.ib) (kf _ _) _;unfold Pv;simp only[Iu,Oy,go_sem,aa,reduceCtorEq,ae]
 refine dq es.length (fun i s'=>s'.base=0∧s'.tmp 0= .d (.dt 4 (es.map Bk))∧s'.tmp 16= .d (.dt 4 (es.map Bk))∧s'.tmp 17= .d (.int .i64 es.length)∧s'.tmp 18= .d (.int .i64 i)∧∀i',i'<i→(V6 es i'==1)=true) ?_ ?_
 ·simp only[go_sem,aa,reduceCtorEq]
  intro i' Dx;omega
 ·rintro i s' hi ⟨eb,f0,f16,f17,f18,hI⟩
  by_cases iy:(i:Int)<es.length
  ·have cj:i<es.length:=by omega
   have wi:=br ((i:Int)+1) (by omega) (by omega)
   have hg:=Bn cj
   have hge:es.getD i e0=es[i]:=by simp[bn,cj]
   obtain⟨⟨q1,q2⟩,q3,q4⟩:=h2 _ (bz cj);rw[←hge]at q1 q2 q3 q4
   have no:(V6 es i==1)=false→((cq es.length).all fun i=>V6 es i==1)=false:=fun h=>all_false cj h
   have hwb:∀k:Nat,-(k:Int)≤nf (wAt es i) k∧nf (wAt es i) k≤k:=a6h (axz es i)
   have hL:V6 es i=(if swE (es.getD i e0)then-(nf (wAt es i) es.length)else nf (wAt es i) es.length)+
    (if decide ((vw (swE (es.getD i e0)) (es.getD i e0).1).2<(vw (swE (es.getD i e0)) (es.getD i e0).2).2)== !swE (es.getD i e0)then 1 else 0):=rfl
   have hwa:∀k,wAt es i k=if k=i then 0 else Ys (swE (es.getD i e0)) (r9 (es.getD i e0)) (es.getD k e0):=fun _=>rfl
   have hes:∀k,k<es.length→ag4 (es.getD k e0):=fun k hk=>by
    have e:es.getD k e0=es[k]:=by simp[bn,hk]
    rw[e];obtain⟨⟨a,b⟩,c,d⟩:=h2 _ (bz hk);exact⟨a,b,c,d⟩
   have hse:=hes i cj
   generalize es.getD i e0=e at*
   obtain⟨⟨a1,a2⟩,⟨a3,a4⟩,⟨a5,a6⟩,a7,a8⟩:=id hse
   have w1:=br (e.1.1+e.2.1) (by omega) (by omega)
   have w2:=br (e.1.2+e.2.2) (by omega) (by omega)
   have hsw:swE e=(e.1.2==e.2.2):=rfl
   have rounds:∀(s':PS) (Q:Exit→PS→Prop),O5 es i e (swE e) s'→s'.tmp 45= .d (.dt 4 (es.map Bk))→s'.tmp 46= .d (.int .i64 es.length)→s'.tmp 47= .d (.int .i64 0)→s'.tmp 8= .d (.int .i64 0)→
     (∀s3,O5 es i e (swE e) s3→s3.tmp 8= .d (.int .i64 (nf (wAt es i) es.length))→Q (.exit 2) s3)→
     jd P (.loop (
       (.seq (
       .region [⟨some 48,.bin .lss (.t 47) (.t 46),none,[]⟩] false []) (
       (.seq (
        (.cond (.t 48) (
        .skip) (
        .exit 2))) (
        afy A.ib
       )))))) Q s':=by
    intro s' Q hB g45 g46 g47 g8 hQ
    refine dq es.length (fun k s3=>O5 es i e (swE e) s3∧s3.tmp 45= .d (.dt 4 (es.map Bk))∧s3.tmp 46= .d (.int .i64 es.length)∧s3.tmp 47= .d (.int .i64 k)∧s3.tmp 8= .d (.int .i64 (nf (wAt es i) k))) ⟨hB,g45,g46,by simpa using g47,by simpa[nf]using g8⟩ ?_
    rintro k s2 hk ⟨hB2,k45,k46,k47,k8⟩
    have hBt:∀(s3:PS) (x:V),O5 es i e (swE e) s3→O5 es i e (swE e) {s3 with tmp:=jf s3.tmp 48 x}:=by
     rintro s3 x ⟨eb,f0,f3,f4,b4,f5,b5,f6,f7,f16,f17,f18⟩;simp only[O5,go_sem,aa,reduceCtorEq,eb,f0,f3,f4,b4,f5,b5,f6,f7,f16,f17,f18]
    by_cases Ch:(k:Int)<es.length
    ·have mq:k<es.length:=by omega
     rw[a9d,Qi,aao];simp only[go_sem,reduceCtorEq,k46,k47,Ch]
     refine ari A mq rfl (by omega) (by omega) hse (hes k mq) (n:=nf (wAt es i) k) (by have:=hwb k;omega) (hBt s2 _ hB2) ?_ ?_ ?_ ?_ ?_
     ·simp only[go_sem,aa,k45]
     ·simp only[go_sem,aa,k46]
     ·simp only[go_sem,aa,k47]
     ·simp only[go_sem,aa,k8]
     ·intro s3 m1 m2 m3 m4 m5
      rw[a1m];refine⟨mq,m1,m2,m3,m4,?_⟩;rw[m5,ad7,hwa]
    ·have:k=es.length:=by omega
     subst this;rw[a9d,Qi,aao];simp only[go_sem,reduceCtorEq,k46,k47,Ch]
     exact hQ _ (hBt s2 _ hB2) (by simp only[go_sem,aa,k8])
   have Yv:=hwb es.length
   generalize nf (wAt es i) es.length=n at*
   have fin:∀b:Bool,(V6 es i==1)=b→b=true→∀i',i'<i+1→(V6 es i'==1)=true:=fun b h1 h2=>og hI (by rw[h1,h2])
   cases c0:swE e
   ·have c0':=c0
    rw[hsw]at c0';rw[c0]at hL rounds;simp only[ec,if_false,Ji,vw]at hL;simp only[go_sem,aa,bx,df,da,de,ab,ag,reduceCtorEq,eb,f0,f16,f17,f18,iy,hg,toNat_cast,aj,ae,w1,w2,c0'];refine rounds _ _ ?_ ?_ ?_ ?_ ?_ ?_
    ·simp only[O5,go_sem,aa,reduceCtorEq,f0,f16,f17,f18]
    ·simp only[go_sem,aa]
    ·simp only[go_sem,aa]
    ·simp only[go_sem,aa]
    ·simp only[go_sem,aa]
    ·rintro s3 ⟨eb,g0,g3,g4,h4,g5,h5,g6,g7,g16,g17,g18⟩ g8
     simp only[reduceIte,ec]at g6 g7;by_cases c1:e.1.2<e.2.2
     ·have wn:=br (n+1) (by omega) (by omega)
      rw[decide_eq_true c1]at hL;simp only[beq_self_eq_true,if_true]at hL;cases c2:(n+1==1)
      ·have c2':(n+1 !=1)=true:=by unfold bne;rw[c2];rfl
       simp only[go_sem,aa,bx,df,da,de,ab,ag,reduceCtorEq,eb,g0,g4,h4,g6,g7,g8,g16,g17,g18,beq_self_eq_true,c1,wn,c2',show((0:Int)==1)=false from rfl]
       rw[no (by rw[hL];exact c2)]
      ·have c2':(n+1 !=1)=false:=by unfold bne;rw[c2];rfl
       simp only[go_sem,aa,bx,df,da,de,ab,ag,reduceCtorEq,eb,g0,g4,h4,g6,g7,g8,g16,g17,g18,beq_self_eq_true,c1,wn,c2',wi,cj,show((0:Int)==1)=false from rfl]
       exact⟨by simp,og hI (by rw[hL];exact c2)⟩
     ·rw[decide_eq_false c1]at hL
      simp only[show(false==true)=false from rfl,ec,if_false,ahz]at hL;cases c2:(n==1)
      ·have c2':(n !=1)=true:=by unfold bne;rw[c2];rfl
       simp only[go_sem,aa,bx,df,da,de,ab,ag,reduceCtorEq,eb,g0,g4,h4,g6,g7,g8,g16,g17,g18,beq_self_eq_true,c1,c2',show((0:Int)==1)=false from rfl,show(false==true)=false from rfl]
       rw[no (by rw[hL];exact c2)]
      ·have c2':(n !=1)=false:=by unfold bne;rw[c2];rfl
       simp only[go_sem,aa,bx,df,da,de,ab,ag,reduceCtorEq,eb,g0,g4,h4,g6,g7,g8,g16,g17,g18,beq_self_eq_true,c1,c2',wi,cj,show((0:Int)==1)=false from rfl,show(false==true)=false from rfl]
       exact⟨by simp,og hI (by rw[hL];exact c2)⟩
   ·have c0':=c0
    rw[hsw]at c0';rw[c0]at hL rounds;simp only[if_true,aAt,vw]at hL
    have wm:=br (0-n) (by omega) (by omega)
    have em:(0:Int)-n= -n:=by omega
    rw[em]at wm;simp only[go_sem,aa,bx,df,da,de,ab,ag,reduceCtorEq,eb,f0,f16,f17,f18,iy,hg,toNat_cast,aj,ae,w1,w2,c0'];refine rounds _ _ ?_ ?_ ?_ ?_ ?_ ?_
    ·simp only[O5,go_sem,aa,reduceCtorEq,f0,f16,f17,f18]
    ·simp only[go_sem,aa]
    ·simp only[go_sem,aa]
    ·simp only[go_sem,aa]
    ·simp only[go_sem,aa]
    ·rintro s3 ⟨eb,g0,g3,g4,h4,g5,h5,g6,g7,g16,g17,g18⟩ g8
     simp only[reduceIte]at g6 g7;by_cases c1:e.1.1<e.2.1
     ·rw[decide_eq_true c1]at hL
      simp only[show(true==false)=false from rfl,ec,if_false,ahz]at hL;cases c2:(-n==1)
      ·have c2':(-n !=1)=true:=by unfold bne;rw[c2];rfl
       simp only[go_sem,aa,bx,df,da,de,ab,ag,reduceCtorEq,eb,g0,g4,h4,g6,g7,g8,g16,g17,g18,beq_self_eq_true,c1,c2',em,wm,show((1:Int)==0)=false from rfl,show(true==false)=false from rfl]
       rw[no (by rw[hL];exact c2)]
      ·have c2':(-n !=1)=false:=by unfold bne;rw[c2];rfl
       simp only[go_sem,aa,bx,df,da,de,ab,ag,reduceCtorEq,eb,g0,g4,h4,g6,g7,g8,g16,g17,g18,beq_self_eq_true,c1,c2',em,wm,wi,cj,show((1:Int)==0)=false from rfl,show(true==false)=false from rfl]
       exact⟨by simp,og hI (by rw[hL];exact c2)⟩
     ·have wn:=br (-n+1) (by omega) (by omega)
      rw[decide_eq_false c1]at hL;simp only[beq_self_eq_true,if_true]at hL;cases c2:(-n+1==1)
      ·have c2':(-n+1 !=1)=true:=by unfold bne;rw[c2];rfl
       simp only[go_sem,aa,bx,df,da,de,ab,ag,reduceCtorEq,eb,g0,g4,h4,g6,g7,g8,g16,g17,g18,beq_self_eq_true,c1,em,wm,wn,c2',show((1:Int)==0)=false from rfl]
       rw[no (by rw[hL];exact c2)]
      ·have c2':(-n+1 !=1)=false:=by unfold bne;rw[c2];rfl
       simp only[go_sem,aa,bx,df,da,de,ab,ag,reduceCtorEq,eb,g0,g4,h4,g6,g7,g8,g16,g17,g18,beq_self_eq_true,c1,em,wm,wn,c2',wi,cj,show((1:Int)==0)=false from rfl]
       exact⟨by simp,og hI (by rw[hL];exact c2)⟩
  ·have:i=es.length:=by omega
   subst this;simp only[go_sem,aa,reduceCtorEq,eb,f17,f18,iy];rw[all_true hI]
end
abbrev Adj:=List (Sp×List Sp)
def qt(k v:Sp):Adj→Adj
 |[]=>[(k,[v])]
 |(a,l)::r=>if ru k a then(k,l++[v])::r else(a,l)::qt k v r
def Ah(k:Sp):Adj→Option (List Sp)
 |[]=>none
 |(a,l)::r=>if ru k a then some l else Ah k r
def Je(k:Sp):Nat→Adj→Option (Nat×List Sp)
 |_,[]=>none
 |i,(a,l)::r=>if ru k a then some (i,l)else Je k (i+1) r
def zu(es:List Ed):Adj:=es.foldl (fun L e=>qt e.1 e.2 L) []
def Ga(es:List Ed):Adj:=es.foldl (fun L e=>qt e.2 e.1 L) []
def Oz(L:Adj):D:= .map (L.map fun p=>(vt p.1,se p.2))
def ents(b:Nat)(ver:Nat→Nat):Nat→Adj→List (D×C)
 |_,[]=>[]
 |i,(k,l)::r=>(vt k,.ref (b+2*i) (ver (b+2*i)) l.length)::ents b ver (i+1) r
theorem alm(k a:Sp):Cs (.row [.int,.int]) (vt k) (vt a)=some (ru k a):=by
 simp[Cs,vt,yr,Ls,ru]
theorem a0s{α:Type}(k a:Sp)(c:α)(r:List (D×α)):Fi (.row [.int,.int]) (vt k) ((vt a,c)::r)=if ru k a then some (some c)else Fi (.row [.int,.int]) (vt k) r:=by
 show(match Cs (.row [.int,.int]) (vt k) (vt a)with|some true=>_|some false=>_|none=>_)=_
 rw[alm];cases ru k a<;>rfl
theorem Wj{α:Type}(k a:Sp)(v c:α)(r:List (D×α)):Kh (.row [.int,.int]) (vt k) v ((vt a,c)::r)=if ru k a then some ((vt k,v)::r)else(Kh (.row [.int,.int]) (vt k) v r).map ((vt a,c):: ·):=by
 show(match Cs (.row [.int,.int]) (vt k) (vt a)with|some true=>_|some false=>_|none=>_)=_
 rw[alm];cases ru k a<;>rfl
theorem ajn(b:Nat)(ver:Nat→Nat)(k:Sp):∀(L:Adj) (i:Nat),Fi (.row [.int,.int]) (vt k) (ents b ver i L)=some ((Je k i L).map fun p=> .ref (b+2*p.1) (ver (b+2*p.1)) p.2.length):=by
 intro L
 induction L with
 |nil=>intro i;rfl
 |cons x r ih=>
  intro i;obtain⟨a,l⟩:=x;simp only[ents,Je,a0s];split
  ·rfl
  ·exact ih _
theorem akc(k v:Sp):∀(L:Adj) (i:Nat),Je k i L=none→qt k v L=L++[(k,[v])]:=by
 intro L
 induction L with
 |nil=>intro i _;rfl
 |cons x r ih=>
  intro i h;obtain⟨a,l⟩:=x;simp only[Je]at h;split at h
  ·cases h
  ·rename_i hn
   simp only[qt,if_neg hn,ih _ h,vp]
theorem arn(b:Nat)(ver:Nat→Nat)(k:Sp)(c:C):∀(L:Adj) (i:Nat),Je k i L=none→Kh (.row [.int,.int]) (vt k) c (ents b ver i L)=some (ents b ver i L++[(vt k,c)]):=by
 intro L
 induction L with
 |nil=>intro i _;rfl
 |cons x r ih=>
  intro i h;obtain⟨a,l⟩:=x;simp only[Je]at h;split at h
  ·cases h
  ·rename_i hn
   simp only[ents,Wj,if_neg hn,ih _ h,gz,vp]
theorem arl(b:Nat)(ver:Nat→Nat)(k v:Sp):∀(L:Adj) (i:Nat) (j:Nat) (l:List Sp),Je k i L=some (j,l)→
  Kh (.row [.int,.int]) (vt k) (C.ref (b+2*j) (ver (b+2*j)) (l.length+1)) (ents b ver i L)=some (ents b ver i (qt k v L))∧
  i≤j∧(∃a,L[j-i]? =some (a,l)∧(qt k v L)[j-i]? =some (k,l++[v]))∧(∀q,q≠j-i→(qt k v L)[q]? =L[q]?)∧(qt k v L).length=L.length:=by
 intro L
 induction L with
 |nil=>intro i j l h;cases h
 |cons x r ih=>
  intro i j l h;obtain⟨a,l'⟩:=x;simp only[Je]at h;split at h
  ·rename_i hy
   injection h with h
   injection h with h1 h2
   subst h1 h2;simp only[ents,Wj,qt,if_pos hy,cb,bq,dh,Ms,ff]
   refine⟨trivial,ar _,⟨a,rfl,trivial⟩,fun q hq=>?_,trivial⟩
   cases q with
   |zero=>exact absurd rfl hq
   |succ q=>rfl
  ·rename_i hn
   obtain⟨k1,k2,⟨a',k3,k4⟩,k5,k6⟩:=ih (i+1) j l h
   have e:j-i=(j-(i+1))+1:=by omega
   simp only[ents,Wj,qt,if_neg hn,k1,gz,bq,k6];rw[e]
   refine⟨trivial,by omega,⟨a',by simpa using k3,by simpa using k4⟩,fun q hq=>?_,trivial⟩
   cases q with
   |zero=>rfl
   |succ q=>simpa using k5 q (by omega)
theorem aot(b:Nat)(ver:Nat→Nat)(k:Sp)(l:List Sp):∀(L:Adj) (i:Nat),ents b ver i (L++[(k,l)])=ents b ver i L++[(vt k,.ref (b+2*(i+L.length)) (ver (b+2*(i+L.length))) l.length)]:=by
 intro L
 induction L with
 |nil=>intro i;rfl
 |cons x r ih=>
  intro i;obtain⟨a,l'⟩:=x
  have e:i+1+r.length=i+(r.length+1):=by omega
  simp only[vp,ents,ih,bq,e]
theorem a1t(b:Nat)(ver a38:Nat→Nat):∀(L:Adj) (i:Nat),(∀j,i≤j→j<i+L.length→a38 (b+2*j)=ver (b+2*j))→ents b a38 i L=ents b ver i L:=by
 intro L
 induction L with
 |nil=>intro i _;rfl
 |cons x r ih=>
  intro i h;obtain⟨a,l'⟩:=x;simp only[ents]
  rw[h i (ar _) (by simp),ih (i+1) fun j h1 h2=>h j (by omega) (by simp only[bq];omega)]
theorem ac1(b:Nat)(ver:Nat→Nat):∀(L:Adj) (i:Nat),(ents b ver i L).length=L.length:=by
 intro L
 induction L with
 |nil=>intro i;rfl
 |cons x r ih=>intro i;obtain⟨a,l'⟩:=x;simp only[ents,bq,ih]
structure Rl(s:PS)(m b:Nat)(L:Adj):Prop where
 mp:s.mp m=some (ents b s.ver 0 L)
 bm:∀(j:Nat) (p:Sp×List Sp),L[j]? =some p→s.bm (b+2*j)=some (.arr 2 (p.2.map zm))
 free:∀j,L.length≤j→s.bm (b+2*j)=none∧s.mp (b+2*j)=none
theorem Rl.frame{s s':PS}{m b:Nat}{L:Adj}(h:Rl s m b L)(h1:s'.mp m=s.mp m)(h2:∀j,s'.bm (b+2*j)=s.bm (b+2*j))(h3:∀j,s'.ver (b+2*j)=s.ver (b+2*j))(h4:∀j,s'.mp (b+2*j)=s.mp (b+2*j)):Rl s' m b L where
 mp:=by rw[h1,h.mp,a1t b s.ver s'.ver L 0 fun j _ _=>h3 j]
 bm j p hp:=by rw[h2];exact h.bm j p hp
 free j hj:=by rw[h2,h4];exact h.free j hj
theorem apv{s:PS}{m b:Nat}{L:Adj}(h:Rl s m b L)(hm:m<b)(hL:L.length<2^30)(hl:∀p∈L,p.2.length<2^30){x kd y:V}{k v:Sp}(hx:x= .ku m (s.ver m))(hk:kd= .d (vt k))(hy:ov s y=some ([zm v],some 2))(ts:List Nat):
  ∃id s',ah8 s id (.row [.int,.int]) 2 16 x kd y ts s'∧Rl s' m b (qt k v L)∧s'.tmp=(fun t=>if t∈ts then .no else s.tmp t)∧(∀i,(∀j,i≠b+2*j)→s'.bm i=s.bm i∧s'.ver i=s.ver i)∧(∀i,i≠m→s'.mp i=s.mp i)∧s'.base=s.base:=by
 have hen:s.ents m (s.ver m)=some (ents b s.ver 0 L):=by unfold PS.ents;rw[if_pos rfl,h.mp]
 have hlk:=ajn b s.ver k L 0
 have auk:(([zm v]:List (List D)).all fun e=>e.all D.one)=true:=rfl
 cases hf:Je k 0 L with
 |none=>
  rw[hf]at hlk;have To:=arn b s.ver k (.ref (b+2*L.length) (s.ver (b+2*L.length)+1) 1) L 0 hf;obtain⟨f1,f2⟩:=h.free L.length (ar _)
  refine⟨b+2*L.length,_,⟨f1,f2,m,s.ver m,vt k,_,[zm v],some 2,hx,hk,hen,hy,rfl,by simp,auk,by rw[ac1];exact hL,.inl ⟨hlk,by simp,_,To,rfl⟩⟩,?_,rfl,fun i hi=>?_,fun i hi=>?_,rfl⟩
  ·rw[akc k v L 0 hf]
   have kg:∀j,m≠b+2*j:=fun j=>by omega
   refine⟨?_,fun j p hp=>?_,fun j hj=>?_⟩
   ·simp only[PS.Xe,bh,aot,eh]
    rw[a1t b s.ver _ L 0 fun j _ hj=>er _ _ _ _ (by omega)]
    rfl
   ·simp only[PS.Xe]
    by_cases hj:j=L.length
    ·subst hj
     rw[bh];rw[jy (ar _),Ms]at hp;simp only[ff,ah]at hp;subst hp;rfl
    ·rw[er _ _ _ _ (by omega)]
     have iy:j<L.length:=by
      have:=(aq.1 hp).1;simp only[cb,bq,dh]at this;omega
     rw[jr iy]at hp;exact h.bm j p hp
   ·simp only[cb,bq,dh]at hj
    simp only[PS.Xe]
    rw[er _ _ _ _ (by omega),er _ _ _ _ (by omega)]
    exact h.free j (by omega)
  ·simp only[PS.Xe]
   rw[er _ _ _ _ (hi _),er _ _ _ _ (hi _)];exact⟨rfl,rfl⟩
  ·simp only[PS.Xe]
   rw[er _ _ _ _ hi]
 |some q=>
  obtain⟨j,l⟩:=q;rw[hf]at hlk;obtain⟨k1,_,⟨a,k3,k4⟩,k5,k6⟩:=arl b s.ver k v L 0 j l hf;rw[S8]at k3 k4 k5;have hb:=h.bm j _ k3
  have he:s.els (b+2*j) (s.ver (b+2*j))=some (2,l.map zm):=by unfold PS.els;rw[if_pos rfl,hb]
  have hll:=hl _ (lx k3);have hjl:j<L.length:=(aq.1 k3).1;obtain⟨f1,f2⟩:=h.free L.length (ar _)
  refine⟨b+2*L.length,_,⟨f1,f2,m,s.ver m,vt k,_,[zm v],some 2,hx,hk,hen,hy,rfl,by simp,auk,by rw[ac1];exact hL,.inr ⟨_,_,_,_,hlk,he,by simp,by simp only[bq,dh];simp only at hll;omega,_,k1,rfl⟩⟩,?_,rfl,fun i hi=>?_,fun i hi=>?_,rfl⟩
  ·refine⟨?_,fun q p hp=>?_,fun q hq=>?_⟩
   ·simp only[PS.Xe,bh]
   ·simp only[PS.Xe]
    by_cases hq:q=j
    ·subst hq
     rw[bh];rw[k4]at hp
     injection hp with hp
     subst hp;simp
    ·rw[er _ _ _ _ (by omega)]
     rw[k5 q hq]at hp;exact h.bm q p hp
   ·rw[k6]at hq
    simp only[PS.Xe]
    rw[er _ _ _ _ (by omega),er _ _ _ _ (by omega)]
    exact h.free q hq
  ·simp only[PS.Xe]
   rw[er _ _ _ _ (hi _)];exact⟨rfl,trivial⟩
  ·simp only[PS.Xe]
   rw[er _ _ _ _ hi]
theorem ag2(k v:Sp):∀L:Adj,(qt k v L).length≤L.length+1:=by
 intro L
 induction L with
 |nil=>simp[qt]
 |cons x r ih=>
  obtain⟨a,l⟩:=x;simp only[qt];split
  ·simp
  ·simp only[bq];omega
theorem acs(k v:Sp)(n:Nat):∀L:Adj,(∀p∈L,p.2.length≤n)→∀p∈qt k v L,p.2.length≤n+1:=by
 intro L
 induction L with
 |nil=>intro _ p hp;simp[qt]at hp;subst hp;simp
 |cons x r ih=>
  obtain⟨a,l⟩:=x;intro h p hp;simp only[qt]at hp;split at hp
  ·rcases dn.1 hp with rfl|hp
   ·have:=h (a,l) (by simp)
    simp only[cb,bq,dh];simp only at this;omega
   ·have:=h p (by simp[hp]);omega
  ·rcases dn.1 hp with rfl|hp
   ·have:=h (a,l) (by simp);simp only at this⊢;omega
   ·exact ih (fun p hp=>h p (by simp[hp])) p hp
theorem abv(f:Ed→Sp×Sp)(es:List Ed):(es.foldl (fun L e=>qt (f e).1 (f e).2 L) []).length≤es.length∧∀p∈es.foldl (fun L e=>qt (f e).1 (f e).2 L) [],p.2.length≤es.length:=by
 have:∀r:List Ed,((r.reverse).foldl (fun L e=>qt (f e).1 (f e).2 L) []).length≤r.length∧∀p∈(r.reverse).foldl (fun L e=>qt (f e).1 (f e).2 L) [],p.2.length≤r.length:=by
  intro r
  induction r with
  |nil=>simp
  |cons e r ih=>
   rw[qm,pw];simp only[ya,aE0,bq]
   exact⟨gn (ag2 _ _ _) (by have:=ih.1;omega),acs _ _ _ _ ih.2⟩
 have h:=this es.reverse
 rwa[Cp,Mw]at h
theorem Rt(es:List Ed):(zu es).length≤es.length∧∀p∈zu es,p.2.length≤es.length:=abv (fun e=>(e.1,e.2)) es
theorem ao1(es:List Ed):(Ga es).length≤es.length∧∀p∈Ga es,p.2.length≤es.length:=abv (fun e=>(e.2,e.1)) es
theorem ae3{es:List Ed}{k:Nat}(h:k<es.length):zu (es.take (k+1))=qt (es.getD k e0).1 (es.getD k e0).2 (zu (es.take k)):=by
 unfold zu;rw[ey,pw];simp[h,bn]
theorem ajv{es:List Ed}{k:Nat}(h:k<es.length):Ga (es.take (k+1))=qt (es.getD k e0).2 (es.getD k e0).1 (Ga (es.take k)):=by
 unfold Ga;rw[ey,pw];simp[h,bn]
section
variable{P:Program}{K:PS→Prop}{s:PS}{r:List RI}
theorem a5m{m b:Nat}{L:Adj}(h:Rl s m b L)(hm:m<b)(hL:L.length<2^30)(hl:∀p∈L,p.2.length<2^30){x kd y:V}{k v:Sp}(hx:x= .ku m (s.ver m))(hk:kd= .d (vt k))(hy:ov s y=some ([zm v],some 2))(ts:List Nat)
  (hK:∀s',Rl s' m b (qt k v L)→s'.tmp=(fun t=>if t∈ts then .no else s.tmp t)→(∀i,(∀j,i≠b+2*j)→s'.bm i=s.bm i∧s'.ver i=s.ver i)→(∀i,i≠m→s'.mp i=s.mp i)→s'.base=s.base→jn P r s' K):
  aun P (.row [.int,.int]) 2 16 x kd y ts none s (xd P r K):=by
 obtain⟨id,s',h1,h2,h3,h4,h5,h6⟩:=apv h hm hL hl hx hk hy ts;exact⟨id,s',h1,hK s' h2 h3 h4 h5 h6⟩
end
def atp(es:List Ed):D:= .agg [Oz (zu es),Oz (Ga es)]
def Jy(b n:Nat):List Nat:=(cq n).map fun j=>b+2*j
theorem Tk{b n i:Nat}:i∈Jy b n↔∃j,j<n∧i=b+2*j:=by
 unfold Jy;rw[jc];constructor
 ·rintro⟨j,hj,rfl⟩;exact⟨j,du.1 hj,rfl⟩
 ·rintro⟨j,hj,rfl⟩;exact⟨j,du.2 hj,rfl⟩
def fE(p:Sp×List Sp):D×C:=(vt p.1,.d (se p.2))
theorem abp{s:PS}{b:Nat}{L:Adj}{ids:List Nat}(hb:∀(j:Nat) (p:Sp×List Sp),L[j]? =some p→s.bm (b+2*j)=some (.arr 2 (p.2.map zm)))(hi:∀j,j<L.length→b+2*j∈ids):
  (ents b s.ver 0 L).map (fun e=>(e.1,C.rb s ids e.2))=L.map fE:=by
 have:∀(L':Adj) (i:Nat),(∀j p,L'[j]? =some p→L[i+j]? =some p)→(ents b s.ver i L').map (fun e=>(e.1,C.rb s ids e.2))=L'.map fE:=by
  intro L'
  induction L' with
  |nil=>intro i _;rfl
  |cons x r ih=>
   intro i h;obtain⟨a,l⟩:=x;have h0:=h 0 (a,l) rfl;rw[xu]at h0;have iy:=(aq.1 h0).1;have hbl:=hb i _ h0
   have he:s.els (b+2*i) (s.ver (b+2*i))=some (2,l.map zm):=by unfold PS.els;rw[if_pos rfl,hbl]
   simp only[ents,cu,ih (i+1) fun j p hp=>by have:=h (j+1) p (by simpa using hp);rw[←this];congr 1;omega]
   congr 1
   simp only[C.rb,if_pos (hi i iy),he,ae,if_true,fE,se]
 exact this L 0 fun j p hp=>by rw[eh];exact hp
theorem atq(L:Adj):Vr (L.map fE)=some (L.map fun p=>(vt p.1,se p.2)):=by
 induction L with
 |nil=>rfl
 |cons x r ih=>simp only[cu,fE,Vr,ih]
section
variable{P:Program}(A:Pr3 P)
theorem agj(es:List Ed)(hes:es.length≤2^20):fp P A.qw [Oy es] (atp es):=by
 refine cy A.mo A.Z5 (by simp) ?_
 show jd P K6 (kf _ _) _;simp only[K6,Oy,go_sem,aa,ab,ag,reduceCtorEq,PS.ents,ax]
 refine rv (fun s'=>s'.base=0∧s'.tmp 2= .dv 2 (s'.ver 2) 0∧s'.bm 2=some (.loc [.d .L0,.d .L0])∧s'.tmp 3= .dv 3 (s'.ver 3) 0∧s'.bm 3=some (.loc [.ku 6 (s'.ver 6),.ku 7 (s'.ver 7)])∧
  Rl s' 6 1000 (zu es)∧Rl s' 7 1001 (Ga es)) ?_ ?_
 ·refine dq es.length (fun k s'=>s'.base=0∧s'.tmp 2= .dv 2 (s'.ver 2) 0∧s'.bm 2=some (.loc [.d .L0,.d .L0])∧s'.tmp 3= .dv 3 (s'.ver 3) 0∧s'.bm 3=some (.loc [.ku 6 (s'.ver 6),.ku 7 (s'.ver 7)])∧
   Rl s' 6 1000 (zu (es.take k))∧Rl s' 7 1001 (Ga (es.take k))∧s'.tmp 9= .d (.dt 4 (es.map Bk))∧s'.tmp 10= .d (.int .i64 es.length)∧s'.tmp 11= .d (.int .i64 k)) ?_ ?_
  ·simp only[go_sem,aa,ae]
   refine⟨⟨rfl,?_,?_⟩,⟨rfl,?_,?_⟩⟩
   ·intro j p hp;simp[zu]at hp
   ·intro j _
    simp only[al]
    exact⟨by rw[if_neg (by omega),if_neg (by omega),if_neg (by omega)],by rw[if_neg (by omega),if_neg (by omega)]⟩
   ·intro j p hp;simp[Ga]at hp
   ·intro j _
    simp only[al]
    exact⟨by rw[if_neg (by omega),if_neg (by omega),if_neg (by omega)],by rw[if_neg (by omega),if_neg (by omega)]⟩
  ·rintro k s' hk ⟨eb,f2,b2,f3,b3,ho,hi,f9,f10,f11⟩
   by_cases iy:(k:Int)<es.length
   ·have cj:k<es.length:=by omega
    have wk:=br ((k:Int)+1) (by omega) (by omega)
    have lo:=Rt (es.take k);have li:=ao1 (es.take k)
    have ltk:(es.take k).length≤2^20:=by simp;omega
    simp only[go_sem,aa,bx,df,da,de,ab,ag,reduceCtorEq,ca,eb,f3,b3,f9,f10,f11,iy,Bn cj,toNat_cast,aj]
    refine a5m (m:=6) (b:=1000) (k:=(es.getD k e0).1) (v:=(es.getD k e0).2) (L:=zu (es.take k)) ?_ (by omega) (by omega) (fun p hp=>by have:=lo.2 p hp;omega) ?_ rfl ?_ _ ?_
    ·refine ho.frame ?_ (fun j=>?_) (fun j=>?_) (fun j=>?_)
     ·rfl
     ·simp only[al]
      rw[if_neg (by omega),if_neg (by omega),if_neg (by omega)]
     ·simp only[al]
      rw[if_neg (by omega),if_neg (by omega)]
     ·rfl
    ·simp only[al,aa,reduceIte]
    ·simp only[ov,PS.els,al,aa,reduceIte,bq,dh,zm]
    ·intro s2 ho2 g1 g2 g3 g4
     have p3:=g2 3 (fun j=>by omega)
     have p2:=g2 2 (fun j=>by omega)
     have p5:=g2 5 (fun j=>by omega)
     have p6:=g2 6 (fun j=>by omega)
     have p7:=g2 7 (fun j=>by omega)
     have m7:=g3 7 (by omega)
     simp only[al,aa,reduceIte]at p3 p2 p5 p6 p7;simp only[go_sem,aa,bx,df,da,de,ab,ag,ca,g1,g4,p3.1,p3.2,p5.1,p5.2,dn,jg,or_false,f3,b3]
     refine a5m (m:=7) (b:=1001) (k:=(es.getD k e0).2) (v:=(es.getD k e0).1) (L:=Ga (es.take k)) ?_ (by omega) (by omega) (fun p hp=>by have:=li.2 p hp;omega) ?_ rfl ?_ _ ?_
     ·refine hi.frame ?_ (fun j=>?_) (fun j=>?_) (fun j=>?_)
      ·exact m7
      ·have:=(g2 (1001+2*j) (fun j'=>by omega)).1
       simp only[al]at this⊢
       rw[if_neg (by omega),this,if_neg (by omega),if_neg (by omega),if_neg (by omega)]
      ·have:=(g2 (1001+2*j) (fun j'=>by omega)).2
       simp only[al]at this⊢
       rw[if_neg (by omega),this,if_neg (by omega),if_neg (by omega)]
      ·exact g3 _ (by omega)
     ·simp only[al,aa,reduceIte,p7.2]
     ·simp only[ov,PS.els,al,reduceIte,bq,dh,zm]
     ·intro s3 hi2 q1 q2 q3 q4
      have r3:=q2 3 (fun j=>by omega)
      have r2:=q2 2 (fun j=>by omega)
      have r6:=q2 6 (fun j=>by omega)
      have r7:=q2 7 (fun j=>by omega)
      simp only[al,aa,reduceIte]at r3 r2 r6 r7;simp only[go_sem,aa,reduceCtorEq,q1,q4,r2.1,r2.2,r3.1,r3.2,r6.2,r7.2,p2.1,p2.2,p3.1,p3.2,p6.2,p7.2,dn,jg,or_false,f2,b2,f3,b3,f9,f10,f11,wk,cj,ae3 cj,ajv cj]
      refine⟨ho2.frame ?_ (fun j=>?_) (fun j=>?_) (fun j=>?_),hi2.frame rfl (fun j=>rfl) (fun j=>rfl) (fun j=>rfl),by simp⟩
      ·exact q3 6 (by omega)
      ·have:=(q2 (1000+2*j) (fun j'=>by omega)).1
       simp only[al]at this⊢
       rw[this,if_neg (by omega)]
      ·have:=(q2 (1000+2*j) (fun j'=>by omega)).2
       simp only[al]at this⊢
       rw[this,if_neg (by omega)]
      ·exact q3 _ (by omega)
   ·have:k=es.length:=by omega
    subst this;rw[eo]at ho hi;simp only[go_sem,aa,reduceCtorEq,eb,f2,b2,f3,b3,f10,f11,iy]
    exact⟨ho.frame rfl (fun j=>rfl) (fun j=>rfl) (fun j=>rfl),hi.frame rfl (fun j=>rfl) (fun j=>rfl) (fun j=>rfl)⟩
 ·rintro s' ⟨eb,f2,b2,f3,b3,ho,hi⟩
  simp only[go_sem]
  have Sa:(999::(Jy 1000 (zu es).length++Jy 1001 (Ga es).length))≠[]:=by simp
  refine Qg (999::(Jy 1000 (zu es).length++Jy 1001 (Ga es).length)) ?_
  have C4:∀i,i<999→i∉(999::(Jy 1000 (zu es).length++Jy 1001 (Ga es).length)):=by
   intro i hi h;simp only[dn,oo,Tk]at h;omega
  have n2:=Fv (s:=s') Sa 2;have n3:=Fv (s:=s') Sa 3
  have nb2:=I1 (s:=s') Sa (C4 2 (by omega))
  have nb3:=I1 (s:=s') Sa (C4 3 (by omega))
  have nm6:=a8a (s:=s') Sa (C4 6 (by omega))
  have nm7:=a8a (s:=s') Sa (C4 7 (by omega))
  have nv:=Zv (s:=s') Sa;have nb:=R1 (999::(Jy 1000 (zu es).length++Jy 1001 (Ga es).length)) s';simp only[a5n,ho.mp,hi.mp,gz]at nm6 nm7
  rw[abp ho.bm fun j hj=>by simp only[dn,oo,Tk];exact .inr (.inl ⟨j,hj,rfl⟩)]at nm6
  rw[abp hi.bm fun j hj=>by simp only[dn,oo,Tk];exact .inr (.inr ⟨j,hj,rfl⟩)]at nm7
  simp only[f2,f3,V.rb]at n2 n3
  simp only[Ea,b2,b3,cu,ez,C.rb,if_neg (C4 6 (by omega)),if_neg (C4 7 (by omega))]at nb2 nb3
  rw[eb]at nb
  generalize s'.rb (999::(Jy 1000 (zu es).length++Jy 1001 (Ga es).length))=s2 at*
  rw[←nv]at n2 n3 nb3;simp only[go_sem,aa,ab,PS.ents,ax,n2,n3,nb2,nb3,nm6,nm7,nb,atq,atp,Oz]
end
def Gg(sz by_:Nat)(z:List D):cn:=
 (.seq (
 .region [⟨some 2,.ij (.c .bd),none,[]⟩] false []) (
 (.seq (
  (.seq (
  .region [⟨some 3,.ij (.t 0),none,[]⟩,
   ⟨some 4,.Hp .dt false (.t 3),none,[]⟩] false []) (
  (.cond (.t 4) (
   (.seq (
   .region [⟨some 2,.ij (.c .bd),none,[]⟩] false []) (
   .ret))) (
   .skip))))) (
  (.seq (
  .region [⟨some 5,.xi false 0 sz z [],none,[]⟩,
   ⟨some 6,.ij (.t 0),none,[]⟩,
   ⟨some 7,.app sz by_ (.t 5) (.t 6),none,[]⟩,
   ⟨some 2,.ij (.t 7),none,[]⟩] false []) (
  .ret))))))
def u0(m:Mem)(rs:List I7)(m':Mem)(r:V):Exit→PS→Prop:=fun e s=>(e= .normal∨e= .ret)∧nh s rs=some r∧Clean s.mem m'
theorem aow{m m':Mem}{rs:List I7}{r:V}{s:PS}:u0 m rs m' r .ret s=(nh s rs=some r∧Clean s.mem m'):=by simp[u0]
theorem ac3{m m':Mem}{rs:List I7}{r:V}{s:PS}:u0 m rs m' r .normal s=(nh s rs=some r∧Clean s.mem m'):=by simp[u0]
attribute [go_sem] aow ac3
section
variable{P:Program}
theorem azr:R5 [] []=some []:=rfl
theorem Y1{sz by_:Nat}{z:List D}:jd P (Gg sz by_ z) (kf [.tmp 2] .bd) (start [.bd]):=by
 simp only[Gg,go_sem,aa,reduceCtorEq]
theorem amu{sz by_:Nat}{z:List D}:jd P (Gg sz by_ z) (kf [.tmp 2] (.dt sz [])) (start [.Kx]):=by
 simp only[Gg,go_sem,aa,ag,reduceCtorEq,ca,Ex,ov,Mt]
theorem arj{sz by_:Nat}{z:List D}{els:List (List D)}(kg:els≠[])(ho:∀e∈els,e.all D.one=true)(hb:els.length*by_≤2^47):jd P (Gg sz by_ z) (kf [.tmp 2] (.dt sz els)) (start [.dt sz els]):=by
 have ho':(els.all fun e=>e.all D.one)=true:=ck.2 ho
 cases els with
 |nil=>exact absurd rfl kg
 |cons e r=>
  simp only[Gg,go_sem,aa,reduceCtorEq,ca,Ex,ov];simp only[bq]at hb;simp only[Sl]at ho';simp only[ho',go_sem,aa,hb]
theorem Rg(hm:P.follows .mixedOrders=true){f:Nat}{sz by_:Nat}{z:List D}(hf:dj P f {}=some (Gg sz by_ z,[.tmp 2],8)){els:List (List D)}(ho:∀e∈els,e.all D.one=true)(hb:els.length*by_≤2^47):fp P f [.dt sz els] (.dt sz els):=by
 by_cases kg:els=[]
 ·subst kg
  exact fp.split ((cy hm hf (by simp) Y1).Qe Iy) (cy hm hf (by simp) amu)
 ·exact cy hm hf (by simp) (arj kg ho hb)
theorem akq(hm:P.follows .mixedOrders=true){f:Nat}{sz by_:Nat}{z:List D}(hf:dj P f {}=some (Gg sz by_ z,[.tmp 2],8)):fp P f [.bd] .bd:=cy hm hf (by simp) Y1
def Mem.put(m:Mem)(id v:Nat)(b:B):Mem:=⟨jf m.bm id (some b),jf m.ver id v,m.mp⟩
theorem Mem.Nq{m:Mem}{id v sz:Nat}{els:List (List D)}:∀i b,(m.put id v (.arr sz els)).bm i=some b→m.bm i=some b∨Jw (m.put id v (.arr sz els)) b:=by
 intro i b hb;simp only[Mem.put,al]at hb;split at hb
 ·injection hb with hb;subst hb;exact .inr trivial
 ·exact .inl hb
theorem Mem.Ja{m:Mem}{id v:Nat}{b:B}(h:m.ver id≤v):∀i,m.ver i≤(m.put id v b).ver i:=by
 intro i;simp only[Mem.put,al];split
 ·rename_i h';subst h';exact h
 ·exact ar _
theorem a5w(hm:P.follows .mixedOrders=true){f:Nat}{sz by_:Nat}{z:List D}(hf:dj P f {}=some (Gg sz by_ z,[.tmp 2],8)){els:List (List D)}(kg:els≠[])(ho:∀e∈els,e.all D.one=true)(hb:els.length*by_≤2^47)
  (m:Mem)(b:Nat):nj P f m [.d (.dt sz els)] (m.put (b+5) (m.ver (b+5)+1) (.arr sz els)) (.ref (b+5) (m.ver (b+5)+1) els.length):=by
 refine jt hm hf (by simp) b (fun c=>?_) (Mem.Ja (by omega)) Mem.Nq (fun i es hi=> .inl hi) (by simp[F5,Mem.put,bh])
 show jd P (Gg sz by_ z) (u0 m [.tmp 2] _ _) _
 have ho':(els.all fun e=>e.all D.one)=true:=ck.2 ho
 cases els with
 |nil=>exact absurd rfl kg
 |cons e r=>
  simp only[Gg,enter,go_sem,aa,reduceCtorEq,ca,Ex,ov,av1];simp only[bq]at hb;simp only[Sl]at ho';simp only[ho',go_sem,aa,hb,nh,qa];intro i;simp only[Mem.put,PS.mem,al];by_cases hi:i=b+5
  ·subst hi;simp
  ·simp[hi]
end
section
variable{P:Program}{K:PS→Prop}{s:PS}{r:List RI}{d:Option Nat}
theorem afh{c:Option D}{g:Nat}{caps:List D}{own:Bool}{a x:D}(h:c=some (.mb g caps))(h2:fp P g (a::caps) x)(hx:x.flat=true)(h4:jn P r (s.put d (.d x)) K):ahd P c own [.d a] d s (xd P r K):=by
 subst h;exact⟨[a],x,rfl,h2,.inl hx,h4⟩
theorem iv{f:Nat}{args:List V}{ds:List D}{x:D}(h1:Gt s args=some ds)(h2:fp P f ds x)(hx:x.flat=true)(h4:jn P r (s.put d (.d x)) K):Dd P f args [] false d s (xd P r K):=
 ⟨ds,x,h1,by simpa using h2,.inl hx,h4⟩
end
theorem Pp(p:Nat→Bool)(n:Nat):(ym p n= -1∧∀i,i<n→p i=false)∨∃i,i<n∧ym p n=(i:Int)∧p i=true∧∀k,k<i→p k=false:=by
 cases h:(cq n).find? p with
 |none=>
  refine .inl ⟨by unfold ym;rw[h],fun i hi=>?_⟩
  have:=Ub.1 h i (du.2 hi);simpa using this
 |some i=>
  obtain⟨h1,as,bs,h2,h3⟩:=W1.1 h;have hi:i<n:=du.1 (Rn h)
  have hk:∀k,k<i→p k=false:=fun k hk=>by
   have hlen:as.length=i:=by
    have h5:(cq n)[as.length]? =some i:=by rw[h2,jy (ar _),Ms];rfl
    have h6:=(aq.1 h5);obtain⟨h7,h8⟩:=h6;rw[List.getElem_range]at h8;exact h8
   have hk1:as[k]? =some k:=by
    have h5:(cq n)[k]? =some k:=Jx (by omega)
    rw[h2,jr (by omega)]at h5
    exact h5
   simpa using h3 k (lx hk1)
  exact .inr ⟨i,hi,by unfold ym;rw[h],h1,hk⟩
theorem filter_none{α:Type}{l:List α}{p:α→Bool}(h:∀x∈l,p x=false):l.filter (fun x=> !p x)=l:=by
 rw[acw];intro x hx;simp[h x hx]
theorem Yc{l:List Sp}{p:Sp→Bool}{j:Nat}(h:j<l.length):(l.take (j+1)).filter (fun x=> !p x)=(l.take j).filter (fun x=> !p x)++if p l[j]then[]else[l[j]]:=by
 rw[ey,axq];simp only[ao h,ahq,a69,List.filter_nil];cases p l[j]<;>rfl
def J1(m:Mem)(id ver:Nat)(l:List Sp)(p:Sp→Bool):Mem:=if l.any p then m.put id (ver+1) (.arr 2 ((l.filter fun x=> !p x).map zm))else m
def Xf(id ver:Nat)(l:List Sp)(p:Sp→Bool):V:= .ref id (if l.any p then ver+1 else ver) (l.filter fun x=> !p x).length
section
variable{P:Program}(A:Pr3 P)
theorem a6x(l:List Sp)(hl:l.length≤2^30){m:Mem}{id ver b q qv:Nat}{g:Nat}{n1 n2:D}{p:Sp→Bool}(hb:m.bm id=some (.arr 2 (l.map zm)))(hv:m.ver id=ver)
  (abb:m.bm (b+7)=none∧m.mp (b+7)=none)(hid:id≠b+7)(awl:m.mp id=none)(hq:m.bm q=some (.loc [.d n1,.d n2]))(hqv:m.ver q=qv)(hq1:q≠id)(hq2:q≠b+7)
  (hp:∀x∈l,fp P g [.agg (zm x),.tz [n1,n2] 0] (.bool (p x))):
  nj P A.ke m [.ref id ver l.length,.mb g [(q,qv)]] (J1 m id ver l p) (Xf id ver l p):=by
 have hI:=aa2 A.toPr (l:=l) (g:=g) (caps:=[.tz [n1,n2] 0]) (p:=fun i=>p (l.getD i (0,0))) (fun i hi=>by
  have e:l.getD i (0,0)=l[i]:=by simp[bn,hi]
  simp only[e]
  exact hp _ (bz hi)) (by omega)
 refine jt A.mo A.Ht (by simp) b (fun cx=>?_) (fun i=>?_) (fun i b' ow=>?_) (fun i es hi=> .inl ?_) ?_
 ·show jd P (uj A.j7) (u0 m [.tmp 4] _ _) _
  simp only[uj,enter,go_sem,aa,bc,reduceCtorEq];refine iv (ds:=[se l,.mb g [.tz [n1,n2] 0]]) ?_ hI rfl ?_
  ·simp only[go_sem,hb,hv,hq,hqv,ae,se,iz,mc]
  ·rcases Pp (fun i=>p (l.getD i (0,0))) l.length with ⟨h1,h2⟩|⟨i0,h0,h1,h2,h3⟩
   ·have a3k:l.any p=false:=by
     rw[aq2];intro x hx;obtain⟨i,hi,rfl⟩:=fj.1 hx;have:=h2 i hi;simpa[bn,hi]using this
    have hf:l.filter (fun x=> !p x)=l:=filter_none fun x hx=>by simpa using aq2.1 a3k x hx
    simp only[go_sem,aa,Sn,bc,reduceCtorEq,h1,Xf,J1,a3k,hf,nh,qa]
    exact fun i=>⟨.inr ⟨rfl,rfl⟩,.inr ⟨rfl,rfl⟩⟩
   ·have h0':=h0
    have h0:p l[i0]=true:=by simpa[bn,h0]using h2
    have a3k:l.any p=true:=Dh.2 ⟨_,bz _,h0⟩
    have hk0:∀x∈l.take i0,p x=false:=by
     intro x hx;obtain⟨k,hk,rfl⟩:=fj.1 hx;simp only[dd]at hk
     have:=h3 k (by omega)
     have hkl:k<l.length:=by omega
     simpa[bn,hkl]using this
    have hw0:=br ((i0:Int)+1) (by omega) (by omega)
    have kg:((i0:Int)== -1)=false:=by simp
    simp only[go_sem,aa,bc,reduceCtorEq,h1,kg,hw0]
    refine rv (fun s'=>s'.base=b∧s'.tmp 0= .ref id ver l.length∧s'.mp=m.mp∧s'.ver id=ver∧(∀k,k≠id→k≠b+7→s'.bm k=m.bm k∧s'.ver k=m.ver k)∧
     s'.tmp 5= .d (.int .i64 ((l.filter fun x=> !p x).length:Nat))∧∃w:List Sp,w.length=l.length∧s'.bm id=some (.arr 2 (w.map zm))∧w.take (l.filter fun x=> !p x).length=l.filter fun x=> !p x) ?_ ?_
    ·refine dq (l.length-(i0+1)) (fun k s'=>s'.base=b∧s'.tmp 0= .ref id ver l.length∧s'.tmp 1= .mb g [(q,qv)]∧s'.mp=m.mp∧s'.ver id=ver∧(∀k,k≠id→k≠b+7→s'.bm k=m.bm k∧s'.ver k=m.ver k)∧
      s'.tmp 6= .d (.int .i64 ((i0+1+k:Nat):Int))∧s'.tmp 5= .d (.int .i64 (((l.take (i0+1+k)).filter fun x=> !p x).length:Nat))∧∃w:List Sp,w.length=l.length∧s'.bm id=some (.arr 2 (w.map zm))∧
      w.take ((l.take (i0+1+k)).filter fun x=> !p x).length=((l.take (i0+1+k)).filter fun x=> !p x)∧w.drop (i0+1+k)=l.drop (i0+1+k)) ?_ ?_
     ·have e1:(l.take (i0+1+0)).filter (fun x=> !p x)=l.take i0:=by
       rw[xu,Yc h0',h0,filter_none hk0];simp
      rw[e1]
      have e2:(l.take i0).length=i0:=by simp;omega
      simp only[go_sem,aa,reduceCtorEq,e2]
      exact⟨hv,fun k _ _=>trivial,by rw[jz];rfl,l,rfl,hb,rfl,rfl⟩
     ·rintro k s' hk ⟨eb,f0,f1,emp,ev,fr,f6,f5,w,w1,w2,w3,w4⟩
      by_cases iy:((i0+1+k:Nat):Int)<l.length
      ·have cj:i0+1+k<l.length:=by omega
       have hkn:k<l.length-(i0+1):=by omega
       have wj:=br (((i0+1+k:Nat):Int)+1) (by omega) (by omega)
       have hwj:i0+1+k<w.length:=by omega
       have hg:=Bm hwj
       have hwl:w.getD (i0+1+k) (0,0)=l[i0+1+k]:=by
        have h5:(w.drop (i0+1+k))[0]? =(l.drop (i0+1+k))[0]? :=by rw[w4]
        simp only[lv,xu]at h5;rw[yb,h5,ao cj];rfl
       rw[hwl]at hg;have tc:=Yc (p:=p) cj
       have aEc:((l.take (i0+1+k)).filter fun x=> !p x).length≤i0+1+k:=gn (Im _ _) (by simp;omega)
       have wi:=br ((((l.take (i0+1+k)).filter fun x=> !p x).length:Int)+1) (by omega) (by omega)
       generalize hF:(l.take (i0+1+k)).filter (fun x=> !p x)=F at*
       have hFw:F.length<w.length:=by omega
       have hgF:=Bm hFw;have fq:=fr q hq1 hq2;rw[hq,hqv]at fq
       have azc:¬(b+7=id):=fun h=>hid h.symm
       have L1:∀x:Sp,(w.map zm).set F.length [.int .i64 x.1,.int .i64 x.2]=(w.set F.length x).map zm:=fun x=>by rw[aG9];rfl
       have aEd:F.length<l.length:=by omega
       have aCl:(F.length:Int)<l.length:=by omega
       simp only[go_sem,aa,ab,reduceCtorEq,eb,f0,f1,f6,ev,w2,w1,ae,iy,hg,toNat_cast,aj,hq2,fq.1,fq.2,iz,mc];refine afh rfl (hp l[i0+1+k] (bz _)) rfl ?_
       have frame:∀(u:Nat→Option B) (v:Nat→Nat),(∀j,j≠id→j≠b+7→u j=s'.bm j∧v j=s'.ver j)→∀j,j≠id→j≠b+7→u j=m.bm j∧v j=m.ver j:=fun u v huv j h1 h2=>by
        obtain⟨k1,k2⟩:=huv j h1 h2;obtain⟨k3,k4⟩:=fr j h1 h2;exact⟨k1.trans k3,k2.trans k4⟩
       have ej:((i0+1+k:Nat):Int)+1=((i0+1+(k+1):Nat):Int):=by omega
       have aus:w.drop (i0+1+(k+1))=l.drop (i0+1+(k+1)):=by
        have:=congrArg (aGs 1) w4;simpa[ahw,p8]using this
       cases c1:p l[i0+1+k]
       ·rw[c1]at tc
        simp only[ec,if_false]at tc;simp only[go_sem,aa,ab,reduceCtorEq,f0,f1,f5,f6,ev,w2,w1,ae,toNat_cast,aj,hid,hgF,L1,aCl,wi,wj,hkn]
        refine⟨emp,frame _ _ fun j h1 h2=>?_,by rw[ej],by rw[show i0+1+(k+1)=i0+1+k+1 by omega,tc];simp,w.set F.length l[i0+1+k],by simp[w1],rfl,?_,?_⟩
        ·simp[h1,h2]
        ·rw[show i0+1+(k+1)=i0+1+k+1 by omega,tc]
         rw[cb,bq,dh,ey,List.getElem?_set_self hFw,List.take_set_of_le (ar _),w3];rfl
        ·rw[List.drop_set_of_lt (by omega)]
         exact aus
       ·rw[c1]at tc
        simp only[if_true,th]at tc;simp only[go_sem,aa,reduceCtorEq,f0,f1,f5,f6,ev,w2,hid,wj,hkn]
        refine⟨emp,frame _ _ fun j h1 h2=>?_,by rw[ej],by rw[show i0+1+(k+1)=i0+1+k+1 by omega,tc],w,w1,rfl,?_,?_⟩
        ·simp[h2]
        ·rw[show i0+1+(k+1)=i0+1+k+1 by omega,tc]
         exact w3
        ·exact aus
      ·have he:i0+1+k=l.length:=by omega
       rw[he,eo]at f5 w3;simp only[go_sem,aa,reduceCtorEq,f0,f6,ev,w2,w1,ae,iy];refine⟨eb,emp,?_⟩;exact⟨fr,f5,w,w1,rfl,w3⟩
    ·rintro s' ⟨eb,f0,emp,ev,fr,f5,w,w1,w2,w3⟩
     have hle:(l.filter fun x=> !p x).length≤l.length:=Im _ _
     have Yx:0<l.length:=by omega
     have hF0:¬(((l.filter fun x=> !p x).length:Int)<0):=by omega
     have hFl:((l.filter fun x=> !p x).length:Int)≤l.length:=by omega
     have hwm:(w.map zm).length=l.length:=by rw[ae,w1]
     have hlen:((w.map zm).take (l.filter fun x=> !p x).length++gu (l.length-(l.filter fun x=> !p x).length) [D.int .i64 0,D.int .i64 0]++(w.map zm).drop ((l.filter fun x=> !p x).length+(l.length-(l.filter fun x=> !p x).length))).length=l.length:=by simp[w1];omega
     have a16:((w.map zm).take (l.filter fun x=> !p x).length++gu (l.length-(l.filter fun x=> !p x).length) [D.int .i64 0,D.int .i64 0]++(w.map zm).drop ((l.filter fun x=> !p x).length+(l.length-(l.filter fun x=> !p x).length))).take (l.filter fun x=> !p x).length=(l.filter fun x=> !p x).map zm:=by
      rw[we,List.take_append_of_le_length (by simp[w1];omega),List.take_take,Nat.min_self,←J7,w3]
     simp only[go_sem,aa,ab,reduceCtorEq,eb,f0,f5,ev,w2,hwm,toNat_cast,aj,hFl,Yx,hle,implies_true,hlen,a16];simp only[J1,Xf,a3k,if_true,nh,qa,go_sem,aa];intro j;simp only[Mem.put,PS.mem,al];by_cases h1:j=id
     ·subst h1
      simp[awl]
     ·by_cases h2:j=b+7
      ·subst h2
       simp[abb.1,abb.2,h1]
      ·obtain⟨k1,k2⟩:=fr j h1 h2
       simp[h1,k1,k2,emp]
 ·unfold J1
  split
  ·exact Mem.Ja (by omega) i
  ·exact ar _
 ·unfold J1 at ow⊢
  split at ow
  ·rename_i h;rw[if_pos h];exact Mem.Nq i b' ow
  ·exact .inl ow
 ·unfold J1 at hi
  split at hi
  ·exact hi
  ·exact hi
 ·unfold Xf J1
  split
  ·simp[F5,Mem.put,bh]
  ·simp[F5,hv]
end
end Go.PI
