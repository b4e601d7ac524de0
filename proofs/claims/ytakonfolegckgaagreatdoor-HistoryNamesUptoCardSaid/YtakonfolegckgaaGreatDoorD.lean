/- A part of the proof for HistoryNames: F7 to F37. Printed from longer texts. -/
import Derived.Test.YtakonfolegckgaaGreatDoorC
set_option linter.all false
set_option maxHeartbeats 64000000
open Bool renaming and_eq_true→da,and_false→qq,and_self→aK3,and_true→Hj,eq_iff_iff→Td,false_and→dz,false_eq_true→fw,false_or→Q2,not_eq_true'→qp,not_false→M7,not_true→aFr,or_eq_false_iff→S0,or_eq_true→Nr,or_false→W6,or_true→aJu,true_and→u9,true_or→M6
open Go.IntKind renaming i64→ab,wrap→Q0
open Go.Op renaming bytesLess→amn
open Int renaming add_zero→amz,natCast_add→lz,natCast_nonneg→ao,natCast_zero→a2m,reduceBEq→W5,reduceBNe→kf,reduceLE→ew,reduceLT→de,reduceNeg→cq,reduceSub→aK1,reduceToNat→ed,tmod_eq_emod_of_nonneg→aD3
open List renaming all_cons→W4,all_eq_false→a3p,all_eq_true→dj,any_cons→aKs,any_eq_false→avh,any_eq_not_all_not→aho,any_eq_true→Av,append_assoc→po,append_nil→sr,cons_append→yv,drop→aLq,drop_drop→amv,drop_eq_getElem_cons→jj,drop_eq_nil_of_le→Nw,drop_length→Pc,eq_nil_of_length_eq_zero→j1,filter_append→Xt,filter_cons→ab1,filter_eq_self→a2k,find?_eq_none→Xs,find?_eq_some_iff_append→Zn,flatten_append→aJz,foldl_append→pn,foldl_cons→Aq,foldl_nil→aIt,getD→cw,getD_cons_zero→aAa,getD_eq_getElem?_getD→Au,getElem?_append_left→mj,getElem?_append_right→ly,getElem?_cons_succ→i7,getElem?_cons_zero→dv,getElem?_drop→og,getElem?_eq_getElem→ax,getElem?_eq_some_iff→aw,getElem?_map→cy,getElem?_range→Mt,getElem_mem→df,getElem_of_mem→jt,getElem_take→adx,length→Gz,length_append→db,length_cons→cj,length_drop→yu,length_filter_le→Dg,length_map→ag,length_nil→du,length_pos_iff→a2j,length_replicate→aJb,length_reverse→a2i,length_take→er,map_append→fl,map_cons→dr,map_drop→aA9,map_eq_nil_iff→fa,map_nil→gn,map_set→aL2,map_take→Lr,mem_append→lx,mem_cons→fb,mem_flatMap→Pb,mem_iff_getElem→gf,mem_map→gr,mem_of_find?_eq_some→V1,mem_of_getElem?→jw,mem_of_mem_take→Xr,mem_range→ez,not_mem_nil→l8,range→dt,reduceReplicate→di,replicate→jb,reverse_cons→tu,reverse_reverse→pz,sum_append→aJm,sum_cons→aKr,take→aLs,take_add_one→gl,take_append_drop→Kx,take_append_of_le_length→azg,take_length→eh,take_of_length_le→vl
open Nat renaming add_assoc→rv,add_zero→Af,le_of_lt→aKq,le_refl→ay,le_trans→ij,mod_lt→a8a,mul_le_mul→aK5,reduceAdd→ae,reduceEqDiff→aa,reduceLeDiff→ah,reduceMul→ey,reducePow→Pz,sub_self→Vm,sub_zero→Vk,zero_add→gd,zero_le→aCz
open Option renaming getD_some→jc,isSome→ca,map→aLg,map_eq_some_iff→aq,map_some→ir,toList_some→amm
open Option.some renaming inj→avj,injEq→ak
open Prod renaming ext→R1
namespace Go.PI
abbrev Ed:=Sp×Sp
def Ba(e:Ed):Ed:=((-e.1.2,e.1.1),(-e.2.2,e.2.1))
def dbl(p:Sp):Sp:=(2*p.1,2*p.2)
def Jd(m:Sp)(f:Ed):Int:=
 if(2*f.1.1≤m.1∧m.1<2*f.2.1)∧j7 (dbl f.1) (dbl f.2) m<0 then-1
 else if(2*f.2.1≤m.1∧m.1<2*f.1.1)∧0<j7 (dbl f.1) (dbl f.2) m then 1 else 0
def e0:Ed:=((0,0),(0,0))
def pq(f:Nat→Int):Nat→Int
 |0=>0
 |k+1=>pq f k+f k
def ui(e:Ed):Sp:=(e.1.1+e.2.1,e.1.2+e.2.2)
def Ws(l:List Ed)(a i:Nat):Int:=if i=a then 0 else Jd (ui (l.getD a e0)) (l.getD i e0)
def X5(l:List Ed)(a:Nat):Int:=pq (Ws l a) l.length+if(l.getD a e0).2.1<(l.getD a e0).1.1 then 1 else 0
def Wd(l:List Ed)(a:Nat):Int:=if(l.getD a e0).1.1=(l.getD a e0).2.1 then X5 (l.map Ba) a else X5 l a
theorem avw(m:Sp)(f:Ed): -1≤Jd m f∧Jd m f≤1:=by unfold Jd;split<;>(try split)<;>omega
theorem ab9{f:Nat→Int}(h:∀i,-1≤f i∧f i≤1):∀k:Nat,-(k:Int)≤pq f k∧pq f k≤k:=by
 intro k
 induction k with
 |zero=>simp[pq]
 |succ k ih=>have:=h k;simp only[pq];omega
theorem aqk(l:List Ed)(a i:Nat): -1≤Ws l a i∧Ws l a i≤1:=by
 unfold Ws;split
 ·omega
 exact avw _ _
theorem Dm{l:List Ed}{k:Nat}(h:k<l.length):(l.map Dj)[k]? =some [.int ab (l.getD k e0).1.1,.int ab (l.getD k e0).1.2,.int ab (l.getD k e0).2.1,.int ab (l.getD k e0).2.2]:=by
 simp[h,Dj,cw]
def SmS(n:Int):Prop:= -1000≤n∧n≤1000
def al5(e:Ed):Prop:=SmS e.1.1∧SmS e.1.2∧SmS e.2.1∧SmS e.2.2
theorem aD7{n:Int}(h:SmS n):Q0 ab (0-n)= -n:=by
 obtain⟨h1,h2⟩:=h;rw[dh _ (by omega) (by omega)];omega
section
variable{P:Program}(A:Pr P)
def aze(l:List Ed)(a:Nat)(s':PS):Prop:=
 s'.tmp 0= .d (.gz 4 (l.map Dj))∧s'.tmp 1= .d (.int ab a)∧s'.base=0∧s'.tmp 5= .ie 5 (s'.av 5) 0∧s'.dc 5=some (.loc ((Dj (l.getD a e0)).map .d))
theorem aAw(l:List Ed)(a:Nat)(ha:a<l.length)(hl:l.length≤1000)(hs:∀e∈l,al5 e):iz P A.Gu [Rt l,.int ab a] (.int ab (Wd l a)):=by
 refine ec A.mo A.acs (by simp) ?_;show kq P (Sa A.o7) (mb _ _) _
 have hsm:∀k,k<l.length→al5 (l.getD k e0):=fun k hk=>by
  have:l.getD k e0=l[k]:=by simp[cw,hk]
  rw[this];exact hs _ (df hk)
 have haI:(a:Int)<l.length:=by omega
 simp only[Sa,Rt,go_sem,aa,de,ae,ah,reduceCtorEq,bp,ao,Dm ha];refine af3 (aze (if(l.getD a e0).1.1=(l.getD a e0).2.1 then l.map Ba else l) a) ?_ ?_
 ·by_cases hv:(l.getD a e0).1.1=(l.getD a e0).2.1
  ·have hv':((l.getD a e0).1.1==(l.getD a e0).2.1)=true:=by simpa using hv
   rw[bd hv];simp only[go_sem,aa,hv'];refine fp l.length (fun k s'=>s'.tmp 0= .d (.gz 4 (l.map Dj))∧s'.tmp 1= .d (.int ab a)∧s'.tmp 7= .d (.int ab k)∧s'.base=0∧s'.tmp 5= .ie 5 (s'.av 5) 0∧s'.dc 5=some (.loc ((Dj (l.getD a e0)).map .d))∧x9 s' 61 4 (((l.take k).map Ba).map Dj) (s'.tmp 6)) ?_ ?_
   ·simp only[go_sem,aa,reduceCtorEq,Dj];exact x9.nil
   rintro k s' hk ⟨f0,f1,f7,eb,f5,b5,acc⟩;by_cases hlt:(k:Int)<l.length
   ·have dq:k<l.length:=by omega
    have wk:=dh ((k:Int)+1) (by omega) (by omega);obtain⟨z1,z2,z3,z4⟩:=hsm k dq;simp only[go_sem,aa,de,ew,ed,ey,ae,ah,reduceCtorEq,di,f0,f7,ag,hlt,bp,ao,Dm dq,aD7 z2,aD7 z4,eb];refine uh (dm:=((l.take k).map Ba).map Dj) (ys:=[Dj (Ba (l.getD k e0))]) (osz:=some 4) ?_ ?_ rfl (by simp[Dj,D.one]) ?_ (by simp) ?_
    ·simp only[go_sem,aa];exact acc.mono (by simp[aj]) (by simp[aj])
    ·simp only[go_sem,aa,qh];rfl
    ·simp only[ag,cj,du,er];omega
    intro s2 g;have Hg:=g.acc (by simp);rw[g.tmp,cu]at Hg;simp only[gd]at Hg;have gv:=g.av 5 (by simp)
    have gb:s2.dc 5=s'.dc 5:=by rw[g.dc];simp[aj]
    simp only[go_sem,aa,reduceCtorEq,g.tmp,f0,f1,f5,f7,wk,g.base,gb,gv,b5];refine⟨dq,by simp,?_⟩;rw[gl,fl,fl]
    have e1:(l[k]?.toList.map Ba).map Dj=[Dj (Ba (l.getD k e0))]:=by simp[dq,cw]
    rw[e1];exact Hg.mono rfl rfl
   have hke:k=l.length:=by omega
   subst hke;rw[eh]at acc
   have hne:(l.map Ba).map Dj≠[]:=by
    intro h;simp only[fa]at h;subst h;simp at ha
   rcases acc with ⟨q,_⟩|⟨_,q1,q2⟩
   ·exact absurd q hne
   have he:PS.dm s' 61 (s'.av 61)=some (4,(l.map Ba).map Dj):=by unfold PS.dm;rw[bd rfl,q2]
   have hgt:((l.map Ba).map Dj)[a]? =some (Dj ((l.map Ba).getD a e0)):=by simp[ha,cw]
   simp only[go_sem,aa,ae,reduceCtorEq,f0,f1,f7,ag,hlt,ao5,eb,am7,Ix,q1,V.xc,C.xc,fb,l8,or_false,q2,bp,ao,hgt,Dj,f5,b5];refine⟨by simp[aj],by simp[aj,f1],rfl,by simp[aj,f5],by simp[aj,Dj]⟩
  have hv':((l.getD a e0).1.1==(l.getD a e0).2.1)=false:=by simpa using hv
  rw[al hv];simp only[go_sem,aa,hv'];refine⟨by simp[aj],by simp[aj],rfl,by simp[aj],by simp[aj,Dj]⟩
 have hlen:(if(l.getD a e0).1.1=(l.getD a e0).2.1 then l.map Ba else l).length=l.length:=by split<;>simp
 have aBr:∀k,k<l.length→al5 ((if(l.getD a e0).1.1=(l.getD a e0).2.1 then l.map Ba else l).getD k e0):=by
  intro k hk;split
  ·have e:(l.map Ba).getD k e0=Ba (l.getD k e0):=by simp[cw,hk]
   rw[e];obtain⟨⟨z1,z2⟩,⟨z3,z4⟩,⟨z5,z6⟩,z7,z8⟩:=hsm k hk;refine⟨⟨?_,?_⟩,⟨?_,?_⟩,⟨?_,?_⟩,?_,?_⟩<;>simp only[Ba]<;>omega
  exact hsm k hk
 have hln:Wd l a=X5 (if(l.getD a e0).1.1=(l.getD a e0).2.1 then l.map Ba else l) a:=by
  unfold Wd;split<;>rfl
 rw[hln];generalize(if(l.getD a e0).1.1=(l.getD a e0).2.1 then l.map Ba else l)=m at hlen aBr⊢;rintro s' ⟨f0,f1,eb,f5,b5⟩;obtain⟨⟨y1,y2⟩,⟨y3,y4⟩,⟨y5,y6⟩,y7,y8⟩:=aBr a ha;have wm1:=dh ((m.getD a e0).1.1+(m.getD a e0).2.1) (by omega) (by omega);have wm2:=dh ((m.getD a e0).1.2+(m.getD a e0).2.2) (by omega) (by omega);simp only[go_sem,aa,de,ew,ed,ey,ae,ah,reduceCtorEq,f5,b5,Dj,eb,wm1,wm2]
 refine fp m.length (fun k s'=>s'.tmp 0= .d (.gz 4 (m.map Dj))∧s'.tmp 1= .d (.int ab a)∧s'.tmp 10= .d (.int ab k)∧s'.tmp 9= .d (.int ab (pq (Ws m a) k))∧s'.base=0∧
  s'.tmp 5= .ie 5 (s'.av 5) 0∧s'.dc 5=some (.loc ((Dj (m.getD a e0)).map .d))∧s'.tmp 8= .ie 8 (s'.av 8) 0∧s'.dc 8=some (.loc [.d (.int ab (ui (m.getD a e0)).1),.d (.int ab (ui (m.getD a e0)).2)])) ?_ ?_
 ·simp only[go_sem,aa,reduceCtorEq,f0,f1,pq,ui,Dj,a2m,f5,b5]
 rintro k s2 hk ⟨f0,f1,f10,f9,eb,f5,b5,f8,b8⟩;by_cases hlt:(k:Int)<m.length
 ·have dq:k<m.length:=by omega
  have wk:=dh ((k:Int)+1) (by omega) (by omega);obtain⟨⟨z1,z2⟩,⟨z3,z4⟩,⟨z5,z6⟩,z7,z8⟩:=aBr k (by omega);have v1:=dh (2*(m.getD k e0).1.1) (by omega) (by omega);have v2:=dh (2*(m.getD k e0).1.2) (by omega) (by omega);have v3:=dh (2*(m.getD k e0).2.1) (by omega) (by omega);have v4:=dh (2*(m.getD k e0).2.2) (by omega) (by omega);have sb:=ab9 (aqk m a) k;have w1:=dh (pq (Ws m a) k+1) (by omega) (by omega);have w2:=dh (pq (Ws m a) k-1) (by omega) (by omega);have hcr:=V5 A (a:=dbl (m.getD k e0).1) (b:=dbl (m.getD k e0).2) (c:=ui (m.getD a e0)) ⟨⟨by simp only[dbl];omega,by simp only[dbl];omega⟩,by simp only[dbl];omega,by simp only[dbl];omega⟩ ⟨⟨by simp only[dbl];omega,by simp only[dbl];omega⟩,by simp only[dbl];omega,by simp only[dbl];omega⟩ ⟨⟨by simp only[ui];omega,by simp only[ui];omega⟩,by simp only[ui];omega,by simp only[ui];omega⟩;have aC7:=hcr;simp only[yx,dbl]at aC7
  have hup:Ws m a k=if k=a then 0 else Jd (ui (m.getD a e0)) (m.getD k e0):=rfl
  simp only[go_sem,aa,de,ew,ed,ey,ae,ah,reduceCtorEq,f0,f1,f10,ag,hlt,bp,ao,Dm dq,v1,v2,v3,v4,eb];by_cases hka:k=a
  ·have q:((k:Int)==(a:Int))=true:=by simp[hka]
   simp only[go_sem,aa,de,reduceCtorEq,f0,f1,f9,f10,f5,f8,b5,b8,q,wk,dq];simp only[pq,hup,bd hka,amz];simp
  have q:((k:Int)==(a:Int))=false:=by simp;omega
  simp only[go_sem,aa,de,ae,ah,reduceCtorEq,f8,b8,q];by_cases hA:2*(m.getD k e0).1.1≤(ui (m.getD a e0)).1
  ·simp only[go_sem,aa,de,ae,ah,reduceCtorEq,f8,b8,hA];by_cases hB:(ui (m.getD a e0)).1<2*(m.getD k e0).2.1
   ·simp only[go_sem,aa,ae,f8,b8,hB];refine Gx aC7 ?_;by_cases hC:j7 (dbl (m.getD k e0).1) (dbl (m.getD k e0).2) (ui (m.getD a e0))<0
    ·have hz:Jd (ui (m.getD a e0)) (m.getD k e0)= -1:=by unfold Jd;rw[bd ⟨⟨hA,hB⟩,hC⟩]
     have hC':=hC;simp only[dbl]at hC';simp only[go_sem,aa,reduceCtorEq,f0,f1,f9,f10,f5,f8,b5,b8,wk,dq,hC',w2];simp only[pq,hup,al hka,hz];simp;rfl
    have hD:¬2*(m.getD k e0).2.1≤(ui (m.getD a e0)).1:=by omega
    have hz:Jd (ui (m.getD a e0)) (m.getD k e0)=0:=by unfold Jd;rw[al (fun h=>hC h.2),al (fun h=>hD h.1.1)]
    have hC':=hC;simp only[dbl]at hC';simp only[go_sem,aa,de,ae,ah,reduceCtorEq,f0,f1,f9,f10,f5,f8,b5,b8,wk,dq,hC',hD];simp only[pq,hup,al hka,hz,amz];simp
   have hD:2*(m.getD k e0).2.1≤(ui (m.getD a e0)).1:=by omega
   have hE:¬(ui (m.getD a e0)).1<2*(m.getD k e0).1.1:=by omega
   have hz:Jd (ui (m.getD a e0)) (m.getD k e0)=0:=by unfold Jd;rw[al (fun h=>hB h.1.2),al (fun h=>hE h.1.2)]
   simp only[go_sem,aa,de,ae,ah,reduceCtorEq,f0,f1,f9,f10,f5,f8,b5,b8,wk,dq,hB,hD,hE];simp only[pq,hup,al hka,hz,amz];simp
  simp only[go_sem,aa,de,ae,ah,reduceCtorEq,f8,b8,hA]
  have hE:(ui (m.getD a e0)).1<2*(m.getD k e0).1.1:=by omega
  by_cases hD:2*(m.getD k e0).2.1≤(ui (m.getD a e0)).1
  ·simp only[go_sem,aa,de,ae,ah,reduceCtorEq,f8,b8,hD,hE];refine Gx aC7 ?_;by_cases hC:0<j7 (dbl (m.getD k e0).1) (dbl (m.getD k e0).2) (ui (m.getD a e0))
   ·have hz:Jd (ui (m.getD a e0)) (m.getD k e0)=1:=by unfold Jd;rw[al (fun h=>hA h.1.1),bd ⟨⟨hD,hE⟩,hC⟩]
    have hC':=hC;simp only[dbl]at hC';simp only[go_sem,aa,reduceCtorEq,f0,f1,f9,f10,f5,f8,b5,b8,wk,dq,hC',w1];simp only[pq,hup,al hka,hz];simp
   have hz:Jd (ui (m.getD a e0)) (m.getD k e0)=0:=by unfold Jd;rw[al (fun h=>hA h.1.1),al (fun h=>hC h.2)]
   have hC':=hC;simp only[dbl]at hC';simp only[go_sem,aa,reduceCtorEq,f0,f1,f9,f10,f5,f8,b5,b8,wk,dq,hC'];simp only[pq,hup,al hka,hz,amz];simp
  have hz:Jd (ui (m.getD a e0)) (m.getD k e0)=0:=by unfold Jd;rw[al (fun h=>hA h.1.1),al (fun h=>hD h.1.1)]
  simp only[go_sem,aa,reduceCtorEq,f0,f1,f9,f10,f5,f8,b5,b8,wk,dq,hD];simp only[pq,hup,al hka,hz,amz];simp
 have:k=m.length:=by omega
 subst this;have sb:=ab9 (aqk m a) m.length;have w1:=dh (pq (Ws m a) m.length+1) (by omega) (by omega);by_cases hg:(m.getD a e0).2.1<(m.getD a e0).1.1
 ·simp only[go_sem,aa,de,ae,ah,reduceCtorEq,f0,f9,f10,ag,hlt,f5,b5,Dj,hg,w1,X5]
 simp only[go_sem,aa,de,ae,ah,reduceCtorEq,f0,f9,f10,ag,hlt,f5,b5,Dj,hg,X5,amz]
end
def G3(a:Sp):Bool:=decide (-500≤a.1)&&(decide (a.1≤500)&&(decide (-500≤a.2)&&decide (a.2≤500)))
theorem cr2{u v:Sp}(hu:SmP u)(hv:SmP v):Q0 ab (u.1*v.2)=u.1*v.2∧Q0 ab (u.2*v.1)=u.2*v.1∧Q0 ab (u.1*v.2-u.2*v.1)=u.1*v.2-u.2*v.1∧
  Q0 ab (u.1*v.1)=u.1*v.1∧Q0 ab (u.2*v.2)=u.2*v.2∧Q0 ab (u.1*v.1+u.2*v.2)=u.1*v.1+u.2*v.2:=by
 obtain⟨⟨a1,a2⟩,a3,a4⟩:=hu;obtain⟨⟨b1,b2⟩,b3,b4⟩:=hv;have m1:=a8q (x:=u.1) (y:=v.2) (by omega) (by omega);have m2:=a8q (x:=u.2) (y:=v.1) (by omega) (by omega);have m3:=a8q (x:=u.1) (y:=v.1) (by omega) (by omega);have m4:=a8q (x:=u.2) (y:=v.2) (by omega) (by omega);exact⟨dh _ (by omega) (by omega),dh _ (by omega) (by omega),dh _ (by omega) (by omega),dh _ (by omega) (by omega),dh _ (by omega) (by omega),dh _ (by omega) (by omega)⟩
section
variable{P:Program}(A:Pr P)
theorem a1i{u v:Sp}(hu:SmP u)(hv:SmP v):iz P A.yf [yx u,yx v] (.int ab (clk u v)):=by
 refine ec A.mo A.Yv (by simp) ?_;show kq P Jn (mb _ _) _;obtain⟨w1,w2,w3,w4,w5,w6⟩:=cr2 hu hv;simp only[Jn,yx,go_sem,aa,de,ew,ed,ey,ae,ah,reduceCtorEq,w1,w2,w3,w4,w5,w6];by_cases h1:u.1*v.2-u.2*v.1<0
 ·simp only[go_sem,aa,h1,clk]
 simp only[go_sem,aa,reduceCtorEq,h1];by_cases h2:0<u.1*v.2-u.2*v.1
 ·simp only[go_sem,aa,h1,h2,clk]
 simp only[go_sem,aa,reduceCtorEq,h2];by_cases h3:u.1*v.1+u.2*v.2<0
 ·simp only[go_sem,aa,h1,h2,h3,clk]
 simp only[go_sem,aa,h1,h2,h3,clk]
theorem ar1{u x y:Sp}(hu:SmP u)(hx:SmP x)(hy:SmP y):iz P A.E0 [yx u,yx x,yx y] (.bool (a8g u x y)):=by
 refine ec A.mo A.a6f (by simp) ?_;show kq P (Oj A.yf) (mb _ _) _;obtain⟨w1,w2,w3,w4,w5,w6⟩:=cr2 hx hy;have c1:=a1i A hu hx;have c2:=a1i A hu hy;simp only[yx]at c1 c2;simp only[Oj,yx,go_sem,aa,ae];refine j5 c1 ?_;simp only[go_sem,aa,ae];refine j5 c2 ?_;simp only[go_sem,aa,reduceCtorEq];by_cases h:clk u x=clk u y
 ·have h':(clk u x !=clk u y)=false:=by simp[h]
  simp only[go_sem,aa,de,ew,ed,ey,ae,ah,reduceCtorEq,h',w1,w2,w3,a8g,bd h]
 have h':(clk u x !=clk u y)=true:=by simp[h]
 simp only[go_sem,aa,reduceCtorEq,h',a8g,al h]
theorem aw5(a:Sp):iz P A.Fb [yx a] (.bool (G3 a)):=by
 refine ec A.mo A.a90 (by simp) ?_;show kq P F6 (mb _ _) _;unfold G3;by_cases h1: -500≤a.1
 ·by_cases h2:a.1≤500
  ·by_cases h3: -500≤a.2
   ·simp only[F6,yx,go_sem,aa,de,ew,cq,ed,ey,ae,ah,reduceCtorEq,h1,h2,h3]
   simp only[F6,yx,go_sem,aa,de,ew,cq,ed,ey,ae,ah,reduceCtorEq,h1,h2,h3,dz]
  simp only[F6,yx,go_sem,aa,de,cq,ae,ah,reduceCtorEq,h1,h2,dz]
 simp only[F6,yx,go_sem,aa,de,cq,ae,ah,reduceCtorEq,h1,dz]
end
def ux(a b:Sp):Bool:=a.1==b.1&&a.2==b.2
def lp(a b:Sp):Sp:=(a.1-b.1,a.2-b.2)
def W7(back d w:Sp):Bool:= !(!ux w back&&(!ux w d&&a8g back w d))
def Zr(p at_ nx:Sp)(e:Ed):Bool:=
 if ux at_ e.1 then W7 (lp p at_) (lp nx at_) (lp e.2 at_)
 else if ux at_ e.2 then W7 (lp p at_) (lp nx at_) (lp e.1 at_)else true
def Fx(l:List Sp)(k:Nat)(e:Ed):Bool:=Zr (l.getD k (0,0)) (l.getD ((k+1)%l.length) (0,0)) (l.getD ((k+2)%l.length) (0,0)) e
def Od(ls:List (List Sp))(es:List Ed):Bool:=
 (dt ls.length).all fun i=>(dt (ls.getD i []).length).all fun k=>(dt es.length).all fun j=>Fx (ls.getD i []) k (es.getD j e0)
theorem ahw{k n:Nat}:((k:Int)+2).tmod n=(((k+2)%n:Nat):Int):=by
 rw[aD3 (by omega)];exact(Int.natCast_emod (k+2) n).symm
def SmL(p:Sp):Prop:=SmS p.1∧SmS p.2
theorem SmL.sub{a b:Sp}(ha:SmL a)(hb:SmL b):SmP (lp a b):=by
 obtain⟨⟨a1,a2⟩,a3,a4⟩:=ha;obtain⟨⟨b1,b2⟩,b3,b4⟩:=hb;refine⟨⟨?_,?_⟩,?_,?_⟩<;>simp only[lp]<;>omega
theorem SmL.p{a:Sp}(ha:SmL a):SmP a:=by
 obtain⟨⟨a1,a2⟩,a3,a4⟩:=ha;exact⟨⟨by omega,by omega⟩,by omega,by omega⟩
section
variable{P:Program}(A:Pr P)
theorem aej{a b:Sp}(ha:SmL a)(hb:SmL b):iz P A.x6 [.agg [.int ab a.1,.int ab a.2],.agg [.int ab b.1,.int ab b.2]] (.agg [.int ab (a.1-b.1),.int ab (a.2-b.2)]):=
 awb A ha.p hb.p
def adt(ls:List (List Sp))(es:List Ed)(i k n:Nat)(p at_ nx:Sp)(s':PS):Prop:=
 s'.tmp 0= .d (.gz 1 (ls.map fun l=>[xf l]))∧s'.tmp 1= .d (.gz 4 (es.map Dj))∧s'.tmp 5= .d (.int ab i)∧s'.tmp 6= .d (.int ab n)∧s'.tmp 7= .d (.int ab k)∧s'.base=0∧
 s'.tmp 8= .ie 8 (s'.av 8) 0∧s'.dc 8=some (.loc [.d (.int ab at_.1),.d (.int ab at_.2)])∧
 s'.tmp 9= .ie 9 (s'.av 9) 0∧s'.dc 9=some (.loc [.d (.int ab nx.1),.d (.int ab nx.2)])∧
 s'.tmp 10= .ie 10 (s'.av 10) 0∧s'.dc 10=some (.loc [.d (.int ab (p.1-at_.1)),.d (.int ab (p.2-at_.2))])
theorem aw1(ls:List (List Sp))(es:List Ed)(h1:ls.length≤1000)(h2:es.length≤1000)(h3:∀l∈ls,l.length≤1000∧∀p∈l,SmL p)(h4:∀e∈es,SmL e.1∧SmL e.2):
  iz P A.Fa [ku ls,Rt es] (.bool (Od ls es)):=by
 refine ec A.mo A.a8z (by simp) ?_;show kq P (Qe A.x6 A.E0) (mb _ _) _;simp only[Qe,ku,Rt,go_sem]
 refine fp ls.length (fun i s'=>s'.tmp 0= .d (.gz 1 (ls.map fun l=>[xf l]))∧s'.tmp 1= .d (.gz 4 (es.map Dj))∧s'.tmp 5= .d (.int ab i)∧s'.base=0∧
  ∀i',i'<i→((dt (ls.getD i' []).length).all fun k=>(dt es.length).all fun j=>Fx (ls.getD i' []) k (es.getD j e0))=true) ?_ ?_
 ·simp only[go_sem,aa,reduceCtorEq];simp
 rintro i s' hi ⟨f0,f1,f5,eb,hI⟩;by_cases hlt:(i:Int)<ls.length
 ·have dq:i<ls.length:=by omega
  have wi:=dh ((i:Int)+1) (by omega) (by omega);have hgi:=Fu dq
  have hli:ls.getD i []=ls[i]:=by simp[cw,dq]
  obtain⟨hn,hp⟩:=h3 ls[i] (df dq);simp only[go_sem,aa,reduceCtorEq,f0,f5,ag,hlt,hgi,bp,ao]
  refine fp ls[i].length (fun k s'=>s'.tmp 0= .d (.gz 1 (ls.map fun l=>[xf l]))∧s'.tmp 1= .d (.gz 4 (es.map Dj))∧s'.tmp 5= .d (.int ab i)∧s'.tmp 6= .d (.int ab ls[i].length)∧s'.tmp 7= .d (.int ab k)∧s'.base=0∧
   ∀k',k'<k→((dt es.length).all fun j=>Fx (ls.getD i []) k' (es.getD j e0))=true) ?_ ?_
  ·simp only[go_sem,aa,reduceCtorEq,f0,f1,f5,eb];simp
  rintro k s' hk ⟨f0,f1,f5,f6,f7,eb,hK⟩;by_cases Hf:(k:Int)<ls[i].length
  ·have rb:k<ls[i].length:=by omega
   have wk:=dh ((k:Int)+1) (by omega) (by omega);have wk2:=dh ((k:Int)+2) (by omega) (by omega);have hm1:(k+1)%ls[i].length<ls[i].length:=a8a _ (by omega);have hm2:(k+2)%ls[i].length<ls[i].length:=a8a _ (by omega)
   have hne:¬((ls[i].length:Nat):Int)=0:=by omega
   have sm:∀q,q<ls[i].length→SmL (ls[i].getD q (0,0)):=fun q hq=>by
    have:ls[i].getD q (0,0)=ls[i][q]:=by simp[cw,hq]
    rw[this];exact hp _ (df hq)
   have s1:=sm _ hm1;have s2:=sm _ hm2;have s0:=sm _ rb
   have O4:(∀e,Fx (ls.getD i []) k e=Zr (ls[i].getD k (0,0)) (ls[i].getD ((k+1)%ls[i].length) (0,0)) (ls[i].getD ((k+2)%ls[i].length) (0,0)) e):=fun e=>by unfold Fx;rw[hli]
   simp only[go_sem,aa,ae,reduceCtorEq,f0,f5,f6,f7,eb,Hf,hgi,bp,ao,wk,wk2,Zs,ahw,hne,Dl hm1,Dl hm2,Dl rb];refine j5 (aej A s0 s1) ?_;generalize ls[i].getD k (0,0)=p at s0 O4⊢;generalize ls[i].getD ((k+1)%ls[i].length) (0,0)=at_ at s1 O4⊢;generalize ls[i].getD ((k+2)%ls[i].length) (0,0)=nx at s2 O4⊢;simp only[go_sem,aa,ae];refine fp es.length (fun j s'=>adt ls es i k ls[i].length p at_ nx s'∧s'.tmp 11= .d (.int ab j)∧∀j',j'<j→Fx (ls.getD i []) k (es.getD j' e0)=true) ?_ ?_
   ·simp only[adt,go_sem,aa,reduceCtorEq,f0,f1,f5,f6,f7];simp
   rintro j s' hj ⟨⟨f0,f1,f5,f6,f7,eb,f8,b8,f9,b9,f10,b10⟩,f11,hJ⟩;by_cases aEa:(j:Int)<es.length
   ·have a1v:j<es.length:=by omega
    have wj:=dh ((j:Int)+1) (by omega) (by omega)
    have hej:es.getD j e0=es[j]:=by simp[cw,a1v]
    obtain⟨q1,q2⟩:=h4 es[j] (df a1v);have hge:=Dm a1v;rw[hej]at hge;simp only[go_sem,aa,ae,ah,reduceCtorEq,f1,eb,f8,b8,f11,ag,aEa,hge,bp,ao]
    have bad:Fx (ls.getD i []) k (es.getD j e0)=false→Od ls es=false:=fun hb=>
     all_false dq (all_false (k:=k) (by rw[hli];exact rb) (all_false a1v hb))
    refine we (fun s'=>adt ls es i k ls[i].length p at_ nx s'∧s'.tmp 11= .d (.int ab j)∧∃w:Sp,SmP w∧Fx (ls.getD i []) k (es.getD j e0)=W7 (lp p at_) (lp nx at_) w∧s'.tmp 12= .ie 12 (s'.av 12) 0∧s'.dc 12=some (.loc [.d (.int ab w.1),.d (.int ab w.2)])) ?_ ?_
    ·cases hA:(at_.1==es[j].1.1&&at_.2==es[j].1.2)
     ·simp only[go_sem,aa,ae,f1,f11,hge,bp,ao];cases hB:(at_.1==es[j].2.1&&at_.2==es[j].2.2)
      ·have hok:Fx (ls.getD i []) k (es.getD j e0)=true:=by
        rw[O4,hej];unfold Zr ux;rw[hA,hB];rfl
       simp only[go_sem,aa,reduceCtorEq,f0,f1,f5,f6,f7,f11,wj,a1v];simp only[adt,go_sem,aa,reduceCtorEq,f0,f1,f5,f6,f7,f8,b8,f9,b9,f10,b10];simp;exact qw hJ hok
      have hok:Fx (ls.getD i []) k (es.getD j e0)=W7 (lp p at_) (lp nx at_) (lp es[j].1 at_):=by
       rw[O4,hej];unfold Zr ux;rw[hA,hB];rfl
      simp only[go_sem,aa,ae,ah,f1,f8,b8,f11,hge,bp,ao];refine j5 (aej A q1 s1) ?_;simp only[go_sem,aa,ae,f11];exact⟨by simp only[adt,go_sem,aa,reduceCtorEq,f0,f1,f5,f6,f7,f8,b8,f9,b9,f10,b10],_,q1.sub s1,hok,rfl⟩
     have hok:Fx (ls.getD i []) k (es.getD j e0)=W7 (lp p at_) (lp nx at_) (lp es[j].2 at_):=by
      rw[O4,hej];unfold Zr ux;rw[hA];rfl
     simp only[go_sem,aa,ae,f1,f8,b8,f11,hge,bp,ao];refine j5 (aej A q2 s1) ?_;simp only[go_sem,aa,ae,f11];exact⟨by simp only[adt,go_sem,aa,reduceCtorEq,f0,f1,f5,f6,f7,f8,b8,f9,b9,f10,b10],_,q2.sub s1,hok,rfl⟩
    rintro s3 ⟨⟨f0,f1,f5,f6,f7,eb,f8,b8,f9,b9,f10,b10⟩,f11,w,hw,hok,f12,b12⟩;have hs:=ar1 A (s0.sub s1) hw (s2.sub s1);simp only[yx,lp]at hs;cases c1:(w.1==(lp p at_).1&&w.2==(lp p at_).2)
    ·have c1':=c1;simp only[lp]at c1';simp only[go_sem,aa,ae,eb,f8,b8,f9,b9,f10,b10,f12,b12,c1'];refine j5 (aej A s2 s1) ?_;cases c2:(w.1==(lp nx at_).1&&w.2==(lp nx at_).2)
     ·have c2':=c2;simp only[lp]at c2';simp only[go_sem,aa,ae,f8,b8,f9,b9,f10,b10,f12,b12,c2'];refine j5 (aej A s2 s1) ?_;simp only[go_sem,aa];refine Gx hs ?_;cases c3:a8g (lp p at_) w (lp nx at_)
      ·have c3':=c3;simp only[lp]at c3'
       have ok:Fx (ls.getD i []) k (es.getD j e0)=true:=by rw[hok];unfold W7 ux;rw[c1,c2,c3];rfl
       simp only[go_sem,aa,reduceCtorEq,f11,wj,a1v,c3'];simp only[adt,go_sem,aa,reduceCtorEq,f0,f1,f5,f6,f7,f8,b8,f9,b9,f10,b10];simp;exact qw hJ ok
      have c3':=c3;simp only[lp]at c3'
      have no:Fx (ls.getD i []) k (es.getD j e0)=false:=by rw[hok];unfold W7 ux;rw[c1,c2,c3];rfl
      simp only[go_sem,aa,c3',bad no]
     have c2':=c2;simp only[lp]at c2'
     have ok:Fx (ls.getD i []) k (es.getD j e0)=true:=by rw[hok];unfold W7 ux;rw[c1,c2];rfl
     simp only[go_sem,aa,reduceCtorEq,f11,wj,a1v,c2'];simp only[adt,go_sem,aa,reduceCtorEq,f0,f1,f5,f6,f7,f8,b8,f9,b9,f10,b10];simp;exact qw hJ ok
    have c1':=c1;simp only[lp]at c1'
    have ok:Fx (ls.getD i []) k (es.getD j e0)=true:=by rw[hok];unfold W7 ux;rw[c1];rfl
    simp only[go_sem,aa,ae,reduceCtorEq,eb,f10,b10,f11,wj,a1v,f12,b12,c1'];simp only[adt,go_sem,aa,reduceCtorEq,f0,f1,f5,f6,f7,f8,b8,f9,b9,f10,b10];simp;exact qw hJ ok
   have:j=es.length:=by omega
   subst this;simp only[go_sem,aa,reduceCtorEq,f0,f1,f5,f6,f7,eb,f11,ag,aEa,wk];exact⟨rb,by simp,qw hK (all_true fun j' hj'=>hJ j' hj')⟩
  have:k=ls[i].length:=by omega
  subst this;simp only[go_sem,aa,reduceCtorEq,f0,f1,f5,f6,f7,eb,Hf,wi];exact⟨dq,by simp,qw hI (all_true fun k' hk'=>hK k' (by rw[hli]at hk';exact hk'))⟩
 have:i=ls.length:=by omega
 subst this;simp only[go_sem,aa,reduceCtorEq,f0,f5,ag,hlt];have:Od ls es=true:=all_true fun i' D0=>hI i' D0;rw[this]
end
def xg(ls:List (List Sp)):Nat:=(ls.map Gz).sum
def He(ls:List (List Sp))(i:Nat):Bool:=
 decide (3≤(ls.getD i []).length)&&(decide (xg (ls.take (i+1))≤60)&&(dt (ls.getD i []).length).all fun k=>G3 ((ls.getD i []).getD k (0,0)))
def acd(ls:List (List Sp)):Bool:=(dt ls.length).all (He ls)
def a3m(e f:Ed):Bool:=e.1.1==f.1.1&&(e.1.2==f.1.2&&(e.2.1==f.2.1&&e.2.2==f.2.2))
def a0f(e f:Ed):Bool:=(!ux f.1 e.1&&(!ux f.1 e.2&&onB e f.1))||Nn e f
def Xk(i k:Nat)(e f:Ed):Bool:=decide (i≠k)&&(a3m e f||(ux e.1 f.2&&ux e.2 f.1))
def Up(es:List Ed)(i:Nat):Bool:=
 !ux (es.getD i e0).1 (es.getD i e0).2&&(dt es.length).all fun k=> !a0f (es.getD i e0) (es.getD k e0)&& !Xk i k (es.getD i e0) (es.getD k e0)
def Gi(es:List Ed):Bool:=(dt es.length).all (Up es)
def X4(es:List Ed):Bool:=(dt es.length).all fun i=>Wd es i==1
def qx(ls:List (List Sp)):Bool:=acd ls&&(Gi (ig ls)&&(X4 (ig ls)&&Od ls (ig ls)))
theorem Pj{ls:List (List Sp)}{i:Nat}(h:i<ls.length):xg (ls.take (i+1))=xg (ls.take i)+(ls.getD i []).length:=by
 unfold xg
 have e:ls[i]?.toList=[ls[i]]:=by simp[h]
 rw[gl,e,fl,aJm];simp only[dr,gn,aKr,List.sum_nil,Af,cw,ax h,jc]
theorem O7(ls:List (List Sp)):(ig ls).length=xg ls:=by
 unfold ig xg
 induction ls with
 |nil=>rfl
 |cons l r ih=>simp[xl,ih]
theorem aj8{ls:List (List Sp)}(h:∀i,i<ls.length→He ls i=true):∀k,k≤ls.length→3*k≤xg (ls.take k):=by
 intro k
 induction k with
 |zero=>intro _;simp
 |succ k ih=>
  intro hk;have h1:=ih (by omega);have h2:=h k (by omega);unfold He at h2;simp only[da,decide_eq_true_eq]at h2;rw[Pj (by omega)];omega
theorem Ob{p:Sp}(h:G3 p=true):SmL p:=by
 unfold G3 at h;simp only[da,decide_eq_true_eq]at h;exact⟨⟨by omega,by omega⟩,by omega,by omega⟩
theorem aab{ls:List (List Sp)}{e:Ed}(h:e∈ig ls):∃l∈ls,e.1∈l∧e.2∈l:=by
 unfold ig at h;obtain⟨l,hl,he⟩:=Pb.1 h;refine⟨l,hl,?_⟩;unfold jg at he;obtain⟨k,hk,rfl⟩:=gr.1 he;have hk':=ez.1 hk;have hm:(k+1)%l.length<l.length:=a8a _ (by omega);unfold B8
 have e1:l.getD k (0,0)=l[k]:=by simp[cw,hk']
 have e2:l.getD ((k+1)%l.length) (0,0)=l[(k+1)%l.length]:=by simp[cw,hm]
 rw[e1,e2];exact⟨df hk',df hm⟩
theorem a1p{ls:List (List Sp)}(h:acd ls=true):ls.length≤20∧xg ls≤60∧∀l∈ls,l.length≤60∧∀p∈l,G3 p=true:=by
 have hall:∀i,i<ls.length→He ls i=true:=fun i hi=>dj.1 h i (ez.2 hi)
 have aDy:xg ls≤60:=by
  by_cases h0:ls.length=0
  ·have:ls=[]:=j1 h0;subst this;simp[xg]
  have:=hall (ls.length-1) (by omega);unfold He at this;simp only[da,decide_eq_true_eq]at this
  have e:ls.length-1+1=ls.length:=by omega
  rw[e,eh]at this;exact this.2.1
 have hl:=aj8 hall ls.length (ay _);rw[eh]at hl;refine⟨by omega,aDy,fun l hl=>?_⟩;obtain⟨i,hi,rfl⟩:=gf.1 hl;have:=hall i hi
 have e:ls.getD i []=ls[i]:=by simp[cw,hi]
 unfold He at this;rw[e]at this;simp only[da,decide_eq_true_eq]at this;refine⟨?_,fun p hp=>?_⟩
 ·have h1:=this.2.1;rw[Pj hi,e]at h1;omega
 obtain⟨k,hk,rfl⟩:=gf.1 hp;have:=dj.1 this.2.2 k (ez.2 hk);simpa[cw,hk]using this
section
variable{P:Program}(A:Pr P)
theorem anw(ls:List (List Sp))(h1:ls.length≤2^30)(h2:∀l∈ls,l.length≤2^30):iz P A.Fc [ku ls] (.bool (qx ls)):=by
 refine ec A.mo A.a94 (by simp) ?_;show kq P (Qg A.Fb A.D7 A.Ll A.Bo A.Gu A.Fa) (mb _ _) _;simp only[Qg,ku,go_sem];refine fp ls.length (fun i s'=>s'.tmp 0= .d (.gz 1 (ls.map fun l=>[xf l]))∧s'.tmp 4= .d (.int ab i)∧s'.tmp 3= .d (.int ab (xg (ls.take i):Nat))∧xg (ls.take i)≤60∧∀i',i'<i→He ls i'=true) ?_ ?_
 ·simp only[go_sem,aa,reduceCtorEq];simp[xg]
 rintro i s' hi ⟨f0,f4,f3,ht,hI⟩;by_cases hlt:(i:Int)<ls.length
 ·have dq:i<ls.length:=by omega
  have wi:=dh ((i:Int)+1) (by omega) (by omega);have hgi:=Fu dq
  have hli:ls.getD i []=ls[i]:=by simp[cw,dq]
  have hbl:=h2 ls[i] (df dq);have htt:=Pj dq;rw[hli]at htt;have wt:=dh ((xg (ls.take i):Int)+ls[i].length) (by omega) (by omega)
  have no:He ls i=false→qx ls=false:=fun h=>by unfold qx;rw[show acd ls=false from all_false dq h];rfl
  simp only[go_sem,aa,reduceCtorEq,f0,f3,f4,ag,hlt,hgi,bp,ao,wt];by_cases c1:(ls[i].length:Int)<3
  ·have:He ls i=false:=by unfold He;rw[hli,decide_eq_false (by omega)];rfl
   simp only[go_sem,aa,c1,no this]
  by_cases c2:(60:Int)<(xg (ls.take i):Int)+ls[i].length
  ·have:He ls i=false:=by
    unfold He
    have:¬xg (ls.take (i+1))≤60:=by omega
    simp only[this,decide_false,dz,qq]
   simp only[go_sem,aa,reduceCtorEq,f3,c1,c2,no this]
  simp only[go_sem,aa,reduceCtorEq,f3,c1,c2];refine fp ls[i].length (fun k s'=>s'.tmp 0= .d (.gz 1 (ls.map fun l=>[xf l]))∧s'.tmp 4= .d (.int ab i)∧s'.tmp 5= .d (.int ab k)∧s'.tmp 3= .d (.int ab ((xg (ls.take i):Int)+ls[i].length))∧∀k',k'<k→G3 ((ls.getD i []).getD k' (0,0))=true) ?_ ?_
  ·simp only[go_sem,aa,reduceCtorEq,f0,f4];simp
  rintro k s' hk ⟨f0,f4,f5,f3,hK⟩;by_cases Hf:(k:Int)<ls[i].length
  ·have rb:k<ls[i].length:=by omega
   have wk:=dh ((k:Int)+1) (by omega) (by omega);simp only[go_sem,aa,ae,reduceCtorEq,f0,f4,f5,ag,Hf,hgi,bp,ao,Dl rb];refine ft (aw5 A _) ?_;cases c3:G3 (ls[i].getD k (0,0))
   ·have:He ls i=false:=by
     unfold He;rw[all_false (k:=k) (by rw[hli];exact rb) (by rw[hli];exact c3)];simp only[qq]
    simp only[go_sem,aa,no this]
   simp only[go_sem,aa,reduceCtorEq,f0,f3,f4,f5,wk,rb];exact⟨by simp,qw hK (by rw[hli];exact c3)⟩
  simp only[go_sem,aa,reduceCtorEq,f0,f3,f4,f5,ag,Hf,hgi,bp,ao,wi,dq];refine⟨by simp,?_,by omega,qw hI ?_⟩
  ·rw[htt];simp
  unfold He
  rw[hli,decide_eq_true (by omega),decide_eq_true (by omega),all_true fun k' hk'=>by have:=hK k' (by omega);rw[hli]at this;exact this]
  rfl
 have:i=ls.length:=by omega
 subst this;have hlo:acd ls=true:=all_true hI;obtain⟨g1,g2,g3⟩:=a1p hlo;have hel:=O7 ls;have hed:=awm A ls h1 (by omega)
 have hsm:∀e∈ig ls,SmL e.1∧SmL e.2:=fun e he=>by
  obtain⟨l,hl,k1,k2⟩:=aab he;exact⟨Ob ((g3 l hl).2 _ k1),Ob ((g3 l hl).2 _ k2)⟩
 have htu:=aw1 A ls (ig ls) (by omega) (by omega) (fun l hl=>⟨by have:=(g3 l hl).1;omega,fun p hp=>Ob ((g3 l hl).2 p hp)⟩) hsm
 simp only[ku]at hed htu;simp only[go_sem,aa,reduceCtorEq,f0,f4,ag,hlt];refine ft hed ?_
 have hrp:qx ls=(Gi (ig ls)&&(X4 (ig ls)&&Od ls (ig ls))):=by unfold qx;rw[hlo];rfl
 rw[hrp]
 have hle:(ig ls).length≤60:=by omega
 generalize ig ls=es at hle hsm htu⊢;simp only[Rt]at htu⊢;simp only[go_sem,aa]
 have hsE:∀k,k<es.length→SmE (es.getD k e0)∧al5 (es.getD k e0):=fun k hk=>by
  have e:es.getD k e0=es[k]:=by simp[cw,hk]
  rw[e];obtain⟨z1,z2⟩:=hsm es[k] (df hk);exact⟨⟨z1.p,z2.p⟩,z1.1,z1.2,z2.1,z2.2⟩
 refine fp es.length (fun i s'=>s'.tmp 0= .d (.gz 1 (ls.map fun l=>[xf l]))∧s'.tmp 6= .d (.gz 4 (es.map Dj))∧s'.tmp 7= .d (.int ab i)∧∀i',i'<i→Up es i'=true) ?_ ?_
 ·simp only[go_sem,aa,reduceCtorEq,f0];simp
 clear f3 f4 f0;rintro i s1 hi1 ⟨f0,f6,f7,hI1⟩;by_cases aEc:(i:Int)<es.length
 ·have a69:i<es.length:=by omega
  have wi:=dh ((i:Int)+1) (by omega) (by omega)
  have no:Up es i=false→(Gi es&&(X4 es&&Od ls es))=false:=fun h=>by rw[show Gi es=false from all_false a69 h];rfl
  simp only[go_sem,aa,ae,ah,reduceCtorEq,f6,f7,ag,aEc,Dm a69,bp,ao];cases c1:((es.getD i e0).1.1==(es.getD i e0).2.1&&(es.getD i e0).1.2==(es.getD i e0).2.2)
  ·simp only[go_sem,aa];refine fp es.length (fun k s'=>s'.tmp 0= .d (.gz 1 (ls.map fun l=>[xf l]))∧s'.tmp 6= .d (.gz 4 (es.map Dj))∧s'.tmp 7= .d (.int ab i)∧s'.tmp 8= .d (.int ab k)∧∀k',k'<k→(!a0f (es.getD i e0) (es.getD k' e0)&& !Xk i k' (es.getD i e0) (es.getD k' e0))=true) ?_ ?_
   ·simp only[go_sem,aa,reduceCtorEq,f0,f6,f7];simp
   rintro k s2 hk2 ⟨f0,f6,f7,f8,hK⟩;by_cases Hf:(k:Int)<es.length
   ·have rb:k<es.length:=by omega
    have wk:=dh ((k:Int)+1) (by omega) (by omega)
    have no2:(!a0f (es.getD i e0) (es.getD k e0)&& !Xk i k (es.getD i e0) (es.getD k e0))=false→(Gi es&&(X4 es&&Od ls es))=false:=fun h=>no (by
     unfold Up
     rw[all_false rb h,qq])
    have hon:=aG2 A (hsE i a69).1 (hsE k rb).1.1;have hcr:=aia A (hsE i a69).1 (hsE k rb).1;simp only[dEd,yx]at hon hcr;simp only[go_sem,aa,ae,ah,reduceCtorEq,f6,f7,f8,ag,Hf,Dm a69,Dm rb,bp,ao];have gi:=Dm a69;have gk:=Dm rb
    generalize hei:es.getD i e0=ei at*
    generalize hek:es.getD k e0=ek at*
    refine Yb (fun s'=>s'.tmp 0= .d (.gz 1 (ls.map fun l=>[xf l]))∧s'.tmp 6= .d (.gz 4 (es.map Dj))∧s'.tmp 7= .d (.int ab i)∧s'.tmp 8= .d (.int ab k)∧s'.tmp 122= .d (.bool (a0f ei ek))) ?_ ?_
    ·cases c2:(ek.1.1==ei.1.1&&ek.1.2==ei.1.2)
     ·cases c3:(ek.1.1==ei.2.1&&ek.1.2==ei.2.2)
      ·simp only[go_sem,aa,ae,ah,f6,f7,f8,gi,gk,bp,ao,c3];refine j5 hon ?_;cases c4:onB ei ek.1
       ·simp only[go_sem,aa,ae,f6,f7,f8,gi,gk,bp,ao];refine j5 hcr ?_;simp only[go_sem,aa,reduceCtorEq,f0,f6,f7,f8,a0f,ux,c2,c3,c4,Q2,qq]
       simp only[go_sem,aa,reduceCtorEq,f0,f6,f7,f8,a0f,ux,c2,c3,c4,M6]
      simp only[go_sem,aa,ae,ah,f6,f7,f8,gi,gk,bp,ao,c3];refine j5 hcr ?_;simp only[go_sem,aa,reduceCtorEq,f0,f6,f7,f8,a0f,ux,c2,c3,Q2,dz,qq]
     simp only[go_sem,aa,ae,f6,f7,f8,gi,gk,bp,ao];refine j5 hcr ?_;simp only[go_sem,aa,reduceCtorEq,f0,f6,f7,f8,a0f,ux,c2,Q2,dz]
    rintro s3 ⟨f0,f6,f7,f8,f122⟩;cases c5:a0f ei ek
    ·rw[c5]at f122;simp only[go_sem,aa,reduceCtorEq,f7,f8,f122];refine Yb (fun s'=>s'.tmp 0= .d (.gz 1 (ls.map fun l=>[xf l]))∧s'.tmp 6= .d (.gz 4 (es.map Dj))∧s'.tmp 7= .d (.int ab i)∧s'.tmp 8= .d (.int ab k)∧s'.tmp 162= .d (.bool (Xk i k ei ek))) ?_ ?_
     ·by_cases c6:i=k
      ·have c6':((i:Int) !=(k:Int))=false:=by simp[c6]
       have hd:Xk i k ei ek=false:=by unfold Xk;simp[c6]
       simp only[go_sem,aa,reduceCtorEq,f0,f6,f7,f8,c6',hd]
      have c6':((i:Int) !=(k:Int))=true:=by simp;omega
      simp only[go_sem,aa,ae,f6,f7,f8,c6',gi,gk,bp,ao];cases c7:(ei.1.1==ek.1.1&&(ei.1.2==ek.1.2&&(ei.2.1==ek.2.1&&ei.2.2==ek.2.2)))
      ·cases c8:(ei.1.1==ek.2.1&&ei.1.2==ek.2.2)
       ·simp only[go_sem,aa,ae,ah,reduceCtorEq,f0,f6,f7,f8,c7,c8,gi,gk,bp,ao,Xk,a3m,ux,c6,Q2,dz,qq]
       simp only[go_sem,aa,ae,ah,reduceCtorEq,f0,f6,f7,f8,c7,c8,gi,gk,bp,ao,Xk,a3m,ux,c6,Q2]
      simp only[go_sem,aa,reduceCtorEq,f0,f6,f7,f8,c7,Xk,a3m,ux,c6,M6]
     rintro s4 ⟨f0,f6,f7,f8,f162⟩;cases c9:Xk i k ei ek
     ·rw[c9]at f162;simp only[go_sem,aa,reduceCtorEq,f0,f6,f7,f8,wk,rb,f162];exact⟨by simp,qw hK (by rw[hek,c5,c9];rfl)⟩
     rw[c9]at f162;simp only[go_sem,f162,no2 (by rw[c5,c9];rfl)]
    rw[c5]at f122;simp only[go_sem,f122,no2 (by rw[c5];rfl)]
   have:k=es.length:=by omega
   subst this;simp only[go_sem,aa,reduceCtorEq,f0,f6,f7,f8,ag,Hf,wi,a69];refine⟨by simp,qw hI1 ?_⟩;unfold Up ux;rw[c1,all_true hK];rfl
  have:Up es i=false:=by unfold Up ux;rw[c1];rfl
  simp only[go_sem,aa,no this]
 have:i=es.length:=by omega
 subst this;have heb:Gi es=true:=all_true hI1;rw[heb,u9];simp only[go_sem,aa,reduceCtorEq,f6,f7,ag,aEc];refine fp es.length (fun i s'=>s'.tmp 0= .d (.gz 1 (ls.map fun l=>[xf l]))∧s'.tmp 6= .d (.gz 4 (es.map Dj))∧s'.tmp 9= .d (.int ab i)∧∀i',i'<i→(Wd es i'==1)=true) ?_ ?_
 ·simp only[go_sem,aa,reduceCtorEq,f0,f6];simp
 rintro i s2 hi2 ⟨f0,f6,f9,hI2⟩;by_cases ajq:(i:Int)<es.length
 ·have atj:i<es.length:=by omega
  have wi:=dh ((i:Int)+1) (by omega) (by omega);have hlf:=aAw A es i atj (by omega) (fun e he=>by obtain⟨z1,z2⟩:=hsm e he;exact⟨z1.1,z1.2,z2.1,z2.2⟩);simp only[Rt]at hlf;simp only[go_sem,aa,reduceCtorEq,f6,f9,ag,ajq];refine j5 hlf ?_;by_cases c1:Wd es i=1
  ·have c1':(Wd es i !=1)=false:=by simp[c1]
   simp only[go_sem,aa,reduceCtorEq,f0,f6,f9,c1',wi,atj];exact⟨by simp,qw hI2 (by simp[c1])⟩
  have c1':(Wd es i !=1)=true:=by simp[c1]
  have:X4 es=false:=all_false atj (by simp[c1]);simp only[go_sem,aa,reduceCtorEq,c1',this,dz]
 have:i=es.length:=by omega
 subst this;have hlb:X4 es=true:=all_true hI2;simp only[go_sem,aa,reduceCtorEq,f0,f6,f9,ag,ajq];refine j5 htu ?_;simp only[go_sem,aa,hlb]
end
structure Ft where
 k:Int
 vs:List Vl
 ls:List (List Sp)
structure Nd where
 n:ByteArray
 f:Ft
 ins:List ByteArray
structure Tr where
 ps:List Pm
 ns:List Nd
def cFt(f:Ft):List D:=[.int ab f.k,vn f.vs,ku f.ls]
def zw(n:Nd):List D:=[.str n.n,.int ab n.f.k,vn n.f.vs,ku n.f.ls,ng n.ins]
def l5(l:List Nd):D:= .gz 5 (l.map zw)
def ud(t:Tr):List D:=[jq t.ps,l5 t.ns]
def v0:Vl:=⟨⟨#[]⟩,0,0⟩
def a9m(vs:List Vl):Bool:=(dt vs.length).all fun i=>L7 (vs.getD i v0)
def a5w(k:Int):Bool:=k==1||(k==2||k==3)
def v7(pr:List (List Sp)→Bool)(f:Ft):Bool:=
 decide (0≤f.k∧f.k<14)&&(((f.vs.length:Int)==Is f.k.toNat)&&(a9m f.vs&&(if a5w f.k then pr f.ls else(f.ls.length:Int)==0)))
theorem at5{k:Nat}(h:k<14):((afx k).toList==(⟨#[]⟩:ByteArray).toList)=false:=by
 match k,h with
 |0,_|1,_|2,_|3,_|4,_|5,_|6,_|7,_|8,_|9,_|10,_|11,_|12,_|13,_=>decide+kernel
 |n+14,h=>omega
theorem Zc{l:List Vl}{k:Nat}(h:k<l.length):(l.map Gj)[k]? =some [.str (l.getD k v0).n,.int ab (l.getD k v0).t,.int ab (l.getD k v0).a]:=by
 simp[h,Gj,cw]
section
variable{P:Program}(A:Pr P)
theorem a9x(f:Ft)(hv:f.vs.length≤2^30)(h1:f.ls.length≤2^30)(h2:∀l∈f.ls,l.length≤2^30):iz P A.xz [.agg (cFt f)] (.bool (v7 qx f)):=by
 refine ec A.mo A.a8y (by simp) ?_;show kq P (Qd A.Bn A.Dz A.zn A.Fc) (mb _ _) _;simp only[Qd,cFt,vn,ku,go_sem,aa,ae,ah];refine ft (aid A _) ?_;by_cases hk:0≤f.k∧f.k<14
 ·have hkn:f.k.toNat<14:=by omega
  have hkc:((f.k.toNat:Nat):Int)=f.k:=by omega
  have hc:=ark A hkn;rw[hkc]at hc;rw[bd hk];simp only[go_sem,aa,ae,ah,at5 hkn,ag];refine ft hc ?_;by_cases c1:(f.vs.length:Int)=Is f.k.toNat
  ·have c1':((f.vs.length:Int) !=Is f.k.toNat)=false:=by simp[c1]
   simp only[go_sem,aa,reduceCtorEq,c1'];refine fp f.vs.length (fun i s'=>s'.tmp 1= .ie 1 (s'.av 1) 0∧s'.dc 1=some (.loc [.d (.int ab f.k),.d (.gz 3 (f.vs.map Gj)),.d (.gz 1 (f.ls.map fun l=>[xf l]))])∧s'.tmp 3= .d (.int ab i)∧∀i',i'<i→L7 (f.vs.getD i' v0)=true) ?_ ?_
   ·simp only[go_sem,aa];simp
   rintro i s' hi ⟨f1,b1,f3,hI⟩;by_cases hlt:(i:Int)<f.vs.length
   ·have dq:i<f.vs.length:=by omega
    have wi:=dh ((i:Int)+1) (by omega) (by omega);simp only[go_sem,aa,ae,ah,reduceCtorEq,f1,b1,f3,ag,hlt,Zc dq,bp,ao];refine ft (abp A (f.vs.getD i v0)) ?_;cases c2:L7 (f.vs.getD i v0)
    ·have:v7 qx f=false:=by unfold v7;rw[show a9m f.vs=false from all_false dq c2];simp only[dz,qq]
     simp only[go_sem,aa,this]
    simp only[go_sem,aa,reduceCtorEq,f1,b1,f3,wi,dq];exact⟨by simp,qw hI c2⟩
   have:i=f.vs.length:=by omega
   subst this;have hvb:a9m f.vs=true:=all_true hI
   have hfb:v7 qx f=if a5w f.k then qx f.ls else(f.ls.length:Int)==0:=by
    unfold v7
    have c1b:((f.vs.length:Int)==Is f.k.toNat)=true:=by simp[c1]
    rw[decide_eq_true hk,hvb,c1b];rfl
   rw[hfb];have hr:=anw A f.ls h1 h2;simp only[ku]at hr;unfold a5w;simp only[go_sem,aa,ae,ah,reduceCtorEq,f1,b1,f3,ag,hlt];cases q1:(f.k==1)
   ·cases q2:(f.k==2)
    ·cases q3:(f.k==3)
     ·simp only[go_sem,aa,ae,ah,reduceCtorEq,f1,b1,ag,q2,q3,Bool.or_self]
     simp only[go_sem,aa,ae,ah,reduceCtorEq,f1,b1,q2,q3,Q2];refine ft hr ?_;simp only[go_sem,aa]
    simp only[go_sem,aa,ae,ah,reduceCtorEq,f1,b1,q2,Q2,M6];refine ft hr ?_;simp only[go_sem,aa]
   simp only[go_sem,aa,ae,f1,b1,M6];refine ft hr ?_;simp only[go_sem,aa]
  have c1':((f.vs.length:Int) !=Is f.k.toNat)=true:=by simp[c1]
  have c1b:((f.vs.length:Int)==Is f.k.toNat)=false:=by simp[c1]
  have:v7 qx f=false:=by unfold v7;rw[c1b];simp only[dz,qq]
  simp only[go_sem,aa,reduceCtorEq,c1',this]
 have:v7 qx f=false:=by unfold v7;rw[decide_eq_false hk];rfl
 rw[al hk];simp only[go_sem,aa,fg,this]
end
def Po(v:Vl)(x:Int×Bool)(p:Pm):Int×Bool:=if kz p.n v.n then(v.t*p.v+v.a,true)else x
def om(v:Vl)(l:List Pm):Int×Bool:=l.foldl (Po v) (v.a,isE v.n)
def r9(pr:List (List Sp)→Bool)(f:Ft)(l:List Pm):List Int×Int:=
 if v7 pr f=false then([],220)else if xt l=false then([],1)
 else if f.vs.all (fun v=>(om v l).2)then(f.vs.map fun v=>(om v l).1,0)else([],4)
def xk(n:Int):List D:=[.int ab n]
def a7f(x:List Int×Int):D:= .Ar [.gz 1 (x.1.map xk),.int ab x.2]
theorem axo{x y:Int}(hx: -1000000≤x∧x≤1000000)(hy: -1000000≤y∧y≤1000000): -1000000000000≤x*y∧x*y≤1000000000000:=by
 have h1:x.natAbs≤1000000:=by omega
 have h2:y.natAbs≤1000000:=by omega
 have:=aK5 h1 h2;rw[←Int.natAbs_mul]at this;omega
theorem a5h{n:Int}(h:Qu n=true): -1000000≤n∧n≤1000000:=by
 unfold Qu at h;simpa using h
theorem a4i{v:Vl}(h:L7 v=true):(-1000000≤v.t∧v.t≤1000000)∧(-1000000≤v.a∧v.a≤1000000):=by
 unfold L7 at h;simp only[da]at h;exact⟨a5h h.1,a5h h.2.1⟩
theorem Xi{pr:List (List Sp)→Bool}{f:Ft}(h:v7 pr f=true):∀i,i<f.vs.length→L7 (f.vs.getD i v0)=true:=by
 unfold v7 at h;simp only[da]at h;exact fun i hi=>dj.1 h.2.2.1 i (ez.2 hi)
theorem Yf{l:List Pm}(h:xt l=true):l.length≤20∧∀i (hi:i<l.length),Qu (l[i]).v=true:=by
 unfold xt at h;simp only[da,decide_eq_true_eq]at h;refine⟨h.1,fun i hi=>?_⟩;have:=dj.1 h.2 i (ez.2 hi);unfold a8n at this;simp only[ax hi,da]at this;exact this.2.1
theorem Vf{pr:List (List Sp)→Bool}{f:Ft}(h:v7 pr f=true):f.vs.length≤6:=by
 unfold v7 at h;simp only[da,decide_eq_true_eq,beq_iff_eq]at h;obtain⟨⟨h0,h1⟩,h2,_⟩:=h
 have:f.k.toNat<14:=by omega
 have hc:Is f.k.toNat≤6:=by
  generalize f.k.toNat=k at this
  match k,this with
  |0,_|1,_|2,_|3,_|4,_|5,_|6,_|7,_|8,_|9,_|10,_|11,_|12,_|13,_=>decide
  |n+14,h=>omega
 omega
theorem afn{v:Vl}{l:List Pm}{k:Nat}(h:k<l.length):om v (l.take (k+1))=Po v (om v (l.take k)) l[k]:=by
 unfold om;rw[gl,pn];simp[h]
theorem ae8{sz:Nat}{x:D}:∀G v,i6 G (.Ar [.ck,x]) v→i6 G (.Ar [.gz sz [],x]) v:=by
 intro G v h
 cases h with
 | @Ar _ vs hl hr=>
  refine .Ar hl fun i y u hy hu=>?_
  match i with
  |0=>
   simp only[dv,ak]at hy;subst hy;exact Lh G u (hr 0 .ck u rfl hu)
  |i+1=>exact hr (i+1) y u hy hu
theorem Zd{l:List Pm}{k:Nat}(h:k<l.length):(l.map ti)[k]? =some [.str l[k].n,.int ab l[k].v]:=by simp[h,ti]
section
variable{P:Program}(A:Pr P)
theorem aep(f:Ft)(l:List Pm)(hv:f.vs.length≤2^30)(h1:f.ls.length≤2^30)(h2:∀l∈f.ls,l.length≤2^30):iz P A.Am [.agg (cFt f),jq l] (a7f (r9 qx f l)):=by
 have main:iz P A.Am [.agg (cFt f),jq l] (.Ar [if(r9 qx f l).1.map xk=[]then .ck else .gz 1 ((r9 qx f l).1.map xk),.int ab (r9 qx f l).2]):=by
  refine ec A.mo A.a34 (by simp) ?_;show kq P (N1 A.xz A.pv) (mb _ _) _;have hr:=a9x A f hv h1 h2;simp only[cFt,vn,ku]at hr;simp only[N1,cFt,vn,ku,jq,go_sem,aa,ae];refine ft hr ?_;cases c1:v7 qx f
  ·have:r9 qx f l=([],220):=by unfold r9;rw[bd c1]
   rw[this];simp only[go_sem,aa]
  simp only[go_sem,aa];refine ft (W9 A l) ?_;cases c2:xt l
  ·have:r9 qx f l=([],1):=by unfold r9;rw[al (by rw[c1];simp),bd c2]
   rw[this];simp only[go_sem,aa]
  have hN:r9 qx f l=if f.vs.all (fun v=>(om v l).2)then(f.vs.map fun v=>(om v l).1,0)else([],4):=by
   unfold r9;rw[al (by rw[c1];simp),al (by rw[c2];simp)]
  rw[hN];have hfl:=Vf c1;obtain⟨hpl,hpv⟩:=Yf c2;simp only[go_sem,aa]
  refine fp f.vs.length (fun i s'=>s'.base=0∧s'.tmp 1= .d (.gz 2 (l.map ti))∧s'.tmp 2= .ie 2 (s'.av 2) 0∧s'.dc 2=some (.loc [.d (.int ab f.k),.d (.gz 3 (f.vs.map Gj)),.d (.gz 1 (f.ls.map fun l=>[xf l]))])∧s'.tmp 7= .d (.int ab i)∧
   x9 s' 67 1 (((f.vs.take i).map fun v=>(om v l).1).map xk) (s'.tmp 6)∧∀i',i'<i→(om (f.vs.getD i' v0) l).2=true) ?_ ?_
  ·simp only[go_sem,aa];refine⟨x9.nil,by simp⟩
  rintro i s' hi ⟨eb,f1,f2,b2,f7,acc,hI⟩;by_cases hlt:(i:Int)<f.vs.length
  ·have dq:i<f.vs.length:=by omega
   have wi:=dh ((i:Int)+1) (by omega) (by omega);have hvi:=Xi c1 i dq
   have hgi:f.vs.getD i v0=f.vs[i]:=by simp[cw,dq]
   have hg:=Zc dq;obtain⟨⟨t1,t2⟩,a1,a2⟩:=a4i hvi;simp only[go_sem,aa,ae,ah,reduceCtorEq,eb,f2,b2,f7,ag,hlt,hg,bp,ao]
   generalize hvv:f.vs.getD i v0=v at*
   refine fp l.length (fun k s'=>s'.base=0∧s'.tmp 1= .d (.gz 2 (l.map ti))∧s'.tmp 2= .ie 2 (s'.av 2) 0∧s'.dc 2=some (.loc [.d (.int ab f.k),.d (.gz 3 (f.vs.map Gj)),.d (.gz 1 (f.ls.map fun l=>[xf l]))])∧s'.tmp 7= .d (.int ab i)∧
    x9 s' 67 1 (((f.vs.take i).map fun v=>(om v l).1).map xk) (s'.tmp 6)∧s'.tmp 8= .ie 8 (s'.av 8) 0∧s'.dc 8=some (.loc [.d (.str v.n),.d (.int ab v.t),.d (.int ab v.a)])∧s'.tmp 11= .d (.int ab k)∧
    s'.tmp 9= .d (.int ab (om v (l.take k)).1)∧s'.tmp 10= .d (.bool (om v (l.take k)).2)) ?_ ?_
   ·simp only[go_sem,aa,f1,f2,b2,f7];refine⟨acc.mono (by simp[aj]) (by simp[aj]),by simp[om],by simp[om,isE]⟩
   clear f1 f2 b2 f7 eb acc;rintro k s2 hk ⟨eb,f1,f2,b2,f7,acc,f8,b8,f11,f9,f10⟩;by_cases Hf:(k:Int)<l.length
   ·have rb:k<l.length:=by omega
    have wk:=dh ((k:Int)+1) (by omega) (by omega);have hp:=a5h (hpv k rb);have m1:=axo ⟨t1,t2⟩ hp;have w1:=dh (v.t*l[k].v) (by omega) (by omega);have w2:=dh (v.t*l[k].v+v.a) (by omega) (by omega);have tn:=afn (v:=v) rb;simp only[go_sem,aa,ae,ah,reduceCtorEq,eb,f1,f8,b8,f11,ag,Hf,Zd rb,bp,ao];cases c3:(l[k].n.toList==v.n.toList)
    ·have e:Po v (om v (l.take k)) l[k]=om v (l.take k):=by unfold Po kz;rw[c3];rfl
     simp only[go_sem,aa,reduceCtorEq,f1,f2,b2,f7,f8,b8,f9,f10,f11,wk,rb,tn,e];refine⟨acc.mono rfl rfl,by simp⟩
    have e:Po v (om v (l.take k)) l[k]=(v.t*l[k].v+v.a,true):=by unfold Po kz;rw[c3];rfl
    simp only[go_sem,aa,ae,ah,reduceCtorEq,f1,f2,b2,f7,f8,b8,f9,f10,f11,wk,rb,tn,e,Zd rb,bp,ao,w1,w2];refine⟨acc.mono rfl rfl,by simp⟩
   have:k=l.length:=by omega
   subst this;rw[eh]at f9 f10;simp only[go_sem,aa,reduceCtorEq,eb,f1,f2,b2,f7,f10,f11,ag,Hf];cases c4:(om v l).2
   ·have hall:f.vs.all (fun v=>(om v l).2)=false:=by
     rw[a3p];exact⟨f.vs[i],df dq,by rw[←hgi,c4];simp⟩
    simp only[go_sem,aa,hall]
   simp only[go_sem,aa,di,f9];refine uh (dm:=((f.vs.take i).map fun v=>(om v l).1).map xk) (ys:=[xk (om v l).1]) (osz:=some 1) ?_ ?_ rfl (by simp[xk,D.one]) ?_ (by simp) ?_
   ·simp only[go_sem,aa];exact acc.mono (by simp[aj]) (by simp[aj])
   ·simp only[go_sem,aa,qh];rfl
   ·simp only[ag,cj,du,er];omega
   intro s3 g;have Hg:=g.acc (by simp);rw[g.tmp,cu]at Hg;simp only[gd]at Hg;have gv:=g.av 2 (by simp)
   have gb:s3.dc 2=s2.dc 2:=by rw[g.dc];simp[aj]
   simp only[go_sem,aa,reduceCtorEq,g.tmp,f1,f2,f7,wi,g.base,gb,gv,b2,dq];refine⟨by simp,?_,qw hI (by rw[hvv];exact c4)⟩
   have e1:(((f.vs.take (i+1)).map fun v=>(om v l).1).map xk)=((f.vs.take i).map fun v=>(om v l).1).map xk++[xk (om v l).1]:=by
    rw[gl,fl,fl];simp[dq,←hgi]
   rw[e1];exact Hg.mono rfl rfl
  have:i=f.vs.length:=by omega
  subst this;rw[eh]at acc
  have hall:f.vs.all (fun v=>(om v l).2)=true:=by
   rw[dj];intro v hv;obtain⟨i,hi,rfl⟩:=gf.1 hv;have:=hI i hi;simpa[cw,hi]using this
  rw[hall];simp only[go_sem,aa,ae,ah,reduceCtorEq,eb,f2,b2,f7,ag,hlt];rcases acc with ⟨a1,a2⟩|⟨a1,a2,a3⟩
  ·simp only[go_sem,a1,a2]
  rw[al a1,a2];simp only[go_sem,a3,ag]
 generalize r9 qx f l=x at main⊢;refine main.M8 fun G v hv=>?_;split at hv
 ·rename_i he;unfold a7f;rw[he];exact ae8 G v hv
 exact hv
end
theorem x9.aF9{P:Program}{s:PS}{K:PS→Prop}{r:List RI}{d:Option Nat}{id sz f:Nat}{dm:List (List D)}{v:V}{y x:D}(acc:x9 s id sz dm v)(h2:iz P f [.gz sz dm,y] x)(hx:x.flat=true)(h4:lk P r (s.put d (.d x)) K):
  Ey P f [v,.d y] [] false d s (Ac P r K):=by
 rcases acc with ⟨rfl,rfl⟩|⟨h1,rfl,h3⟩
 ·exact⟨[.ck,y],x,rfl,h2.w0.toC,.inl hx,h4⟩
 have he:PS.dm s id (s.av id)=some (sz,dm):=by unfold PS.dm;rw[bd rfl,h3]
 exact⟨[.gz sz dm,y],x,by simp[Hk,snap,he],h2.toC,.inl hx,h4⟩
theorem x9.aF8{P:Program}{s:PS}{K:PS→Prop}{r:List RI}{d:Option Nat}{id sz f:Nat}{dm:List (List D)}{v:V}{y x:D}(acc:x9 s id sz dm v)(h2:iz P f [y,.gz sz dm] x)(hx:x.flat=true)(h4:lk P r (s.put d (.d x)) K):
  Ey P f [.d y,v] [] false d s (Ac P r K):=by
 rcases acc with ⟨rfl,rfl⟩|⟨h1,rfl,h3⟩
 ·exact⟨[y,.ck],x,rfl,h2.w1.toC,.inl hx,h4⟩
 have he:PS.dm s id (s.av id)=some (sz,dm):=by unfold PS.dm;rw[bd rfl,h3]
 exact⟨[y,.gz sz dm],x,by simp[Hk,snap,he],h2.toC,.inl hx,h4⟩
theorem x9.put{s:PS}{id sz:Nat}{dm:List (List D)}{v w:V}{d:Option Nat}(h:x9 s id sz dm v):x9 (s.put d w) id sz dm v:=h.mono (by cases d<;>rfl) (by cases d<;>rfl)
def L8(n:Nd)(out:List ByteArray):Bool:=(dt n.ins.length).all fun i=>hasB out (n.ins.getD i ⟨#[]⟩)
def n0:Nd:=⟨⟨#[]⟩,⟨0,[],[]⟩,[]⟩
def oz(out:List ByteArray)(b:ByteArray)(n:Nd):ByteArray:=if !hasB out n.n&&(L8 n out&&(isE b||strLt n.n b))then n.n else b
def P5(ns:List Nd)(out:List ByteArray):ByteArray:=ns.foldl (oz out) ⟨#[]⟩
def Ww(ns:List Nd):Nat→List ByteArray→List ByteArray
 |0,out=>out
 |k+1,out=>if isE (P5 ns out)then out else Ww ns k (out++[P5 ns out])
def Ib(ns:List Nd):List ByteArray:=Ww ns (ns.length+1) []
def T5(ns:List Nd)(out:List ByteArray):Nat:=(ns.filter fun n=> !hasB out n.n).length
theorem F3{l:List ByteArray}{k:Nat}(h:k<l.length):(l.map ss)[k]? =some [.str (l.getD k ⟨#[]⟩)]:=by simp[h,ss,cw]
theorem Kh{l:List Nd}{k:Nat}(h:k<l.length):(l.map zw)[k]? =some [.str (l.getD k n0).n,.int ab (l.getD k n0).f.k,vn (l.getD k n0).f.vs,ku (l.getD k n0).f.ls,ng (l.getD k n0).ins]:=by
 simp[h,zw,cw]
theorem ap6{l:List ByteArray}{s:ByteArray}{k:Nat}(h:k<l.length):hasB (l.take (k+1)) s=(hasB (l.take k) s||kz (l.getD k ⟨#[]⟩) s):=by
 unfold hasB;rw[gl,List.any_append];simp[h,cw]
theorem Ei(s:ByteArray):kz s s=true:=by simp[kz]
theorem Pt(l:List ByteArray)(a s:ByteArray):hasB (l++[a]) s=(hasB l s||kz a s):=by simp[hasB]
theorem av3(ns:List Nd)(out:List ByteArray):∀b,ns.foldl (oz out) b=b∨∃n∈ns,ns.foldl (oz out) b=n.n∧hasB out n.n=false:=by
 induction ns with
 |nil=>intro b;exact .inl rfl
 |cons n r ih=>
  intro b;simp only[Aq];rcases ih (oz out b n)with h|⟨m,hm,h1,h2⟩
  ·by_cases hc:(!hasB out n.n&&(L8 n out&&(isE b||strLt n.n b)))=true
   ·have e:oz out b n=n.n:=by unfold oz;rw[bd hc]
    refine .inr ⟨n,by simp,by rw[h,e],?_⟩;simp only[da]at hc;simpa using hc.1
   have e:oz out b n=b:=by unfold oz;rw[al hc]
   exact .inl (by rw[h,e])
  exact .inr ⟨m,by simp[hm],h1,h2⟩
theorem ayq{α:Type}{p q:α→Bool}(h:∀m,p m=true→q m=true):∀l:List α,(l.filter p).length≤(l.filter q).length:=by
 intro l
 induction l with
 |nil=>simp
 |cons m r ih=>
  simp only[ab1];cases hp:p m
  ·cases hq:q m<;>simp<;>omega
  rw[h m hp];simp;omega
theorem am9{α:Type}{p q:α→Bool}(h:∀m,p m=true→q m=true){n:α}(hp:p n=false)(hq:q n=true):∀l:List α,n∈l→(l.filter p).length<(l.filter q).length:=by
 intro l hl
 induction l with
 |nil=>simp at hl
 |cons m r ih=>
  rcases fb.1 hl with rfl|hl
  ·have:=ayq h r;simp only[ab1,hp,hq];simp;omega
  have:=ih hl;simp only[ab1];cases hp':p m
  ·cases hq':q m<;>simp<;>omega
  rw[h m hp'];simp;omega
theorem ax5{ns:List Nd}{out:List ByteArray}(h:isE (P5 ns out)=false):T5 ns (out++[P5 ns out])<T5 ns out:=by
 rcases av3 ns out ⟨#[]⟩with h0|⟨n,hn,h1,h2⟩
 ·have:P5 ns out=⟨#[]⟩:=h0;rw[this]at h;simp[isE]at h
 have hb:P5 ns out=n.n:=h1;rw[hb];unfold T5;refine am9 (n:=n) (fun m hm=>?_) ?_ ?_ ns hn
 ·rw[Pt]at hm;cases hx:hasB out m.n
  ·rfl
  rw[hx]at hm;simp at hm
 ·rw[Pt,Ei];simp
 rw[h2];rfl
section
variable{P:Program}(A:Pr P)
theorem azl(l:List ByteArray)(s:ByteArray)(hl:l.length≤2^40):iz P A.Bi [ng l,.str s] (.bool (hasB l s)):=by
 refine ec A.mo A.agd (by simp) ?_;show kq P U0 (mb _ _) _;simp only[U0,ng,go_sem];refine fp l.length (fun k s'=>s'.tmp 0= .d (.gz 1 (l.map ss))∧s'.tmp 1= .d (.str s)∧s'.tmp 5= .d (.int ab k)∧hasB (l.take k) s=false) ?_ ?_
 ·simp only[go_sem,aa,reduceCtorEq];simp[hasB]
 rintro k s' hk ⟨f0,f1,f5,ha⟩;by_cases hlt:(k:Int)<l.length
 ·have dq:k<l.length:=by omega
  have wk:=dh ((k:Int)+1) (by omega) (by omega);simp only[go_sem,aa,reduceCtorEq,f0,f1,f5,ag,hlt,F3 dq,bp,ao];cases c:((l.getD k ⟨#[]⟩).toList==s.toList)
  ·simp only[go_sem,aa,reduceCtorEq,f0,f1,f5,wk,dq];refine⟨by simp,?_⟩;rw[ap6 dq,ha];exact c
  have:hasB l s=true:=by
   unfold hasB;rw[Av];refine⟨l[k],df dq,?_⟩
   have e:l.getD k ⟨#[]⟩=l[k]:=by simp[cw,dq]
   rw[e]at c;exact c
  simp only[go_sem,aa,this]
 have:k=l.length:=by omega
 subst this;rw[eh]at ha;simp only[go_sem,aa,reduceCtorEq,f0,f5,ag,hlt,ha]
theorem aw6(n:Nd)(out:List ByteArray)(hl:n.ins.length≤2^40)(ho:out.length≤2^40):iz P A.F7 [.agg (zw n),ng out] (.bool (L8 n out)):=by
 refine ec A.mo A.a8t (by simp) ?_;show kq P (Q8 A.Bi) (mb _ _) _;have hh:=fun s=>azl A out s ho;simp only[ng]at hh;simp only[Q8,zw,ng,vn,ku,go_sem,ae]
 refine fp n.ins.length (fun k s'=>s'.tmp 1= .d (.gz 1 (out.map ss))∧s'.tmp 2= .ie 2 (s'.av 2) 0∧s'.dc 2=some (.loc [.d (.str n.n),.d (.int ab n.f.k),.d (.gz 3 (n.f.vs.map Gj)),.d (.gz 1 (n.f.ls.map fun l=>[xf l])),.d (.gz 1 (n.ins.map ss))])∧s'.tmp 5= .d (.int ab k)∧
  ∀i,i<k→hasB out (n.ins.getD i ⟨#[]⟩)=true) ?_ ?_
 ·simp only[go_sem,aa];simp
 rintro k s' hk ⟨f1,f2,b2,f5,hI⟩;by_cases hlt:(k:Int)<n.ins.length
 ·have dq:k<n.ins.length:=by omega
  have wk:=dh ((k:Int)+1) (by omega) (by omega);simp only[go_sem,aa,ae,reduceCtorEq,f1,f2,b2,f5,ag,hlt,F3 dq,bp,ao];refine j5 (hh _) ?_;cases c:hasB out (n.ins.getD k ⟨#[]⟩)
  ·have:L8 n out=false:=all_false dq c;simp only[go_sem,aa,this]
  simp only[go_sem,aa,reduceCtorEq,f1,f2,b2,f5,wk,dq];exact⟨by simp,qw hI c⟩
 have:k=n.ins.length:=by omega
 subst this;have:L8 n out=true:=all_true hI;simp only[go_sem,aa,ae,reduceCtorEq,f2,b2,f5,ag,hlt,this]
theorem awh(t:Tr)(hn:t.ns.length≤1000)(hi:∀n∈t.ns,n.ins.length≤2^40):iz P A.D5 [.agg (ud t)] (ng (Ib t.ns)):=by
 have main:iz P A.D5 [.agg (ud t)] (if(Ib t.ns).map ss=[]then .ck else .gz 1 ((Ib t.ns).map ss)):=by
  refine ec A.mo A.a8v (by simp) ?_;show kq P (Qa A.Bi A.F7) (mb _ _) _;simp only[Qa,ud,jq,l5,go_sem,ae]
  have h0:T5 t.ns []≤t.ns.length:=by unfold T5;exact Dg _ _
  refine fp t.ns.length (fun i s'=>∃out:List ByteArray,s'.base=0∧s'.tmp 1= .ie 1 (s'.av 1) 0∧s'.dc 1=some (.loc [.d (.gz 2 (t.ps.map ti)),.d (.gz 5 (t.ns.map zw))])∧x9 s' 47 1 (out.map ss) (s'.tmp 3)∧
   T5 t.ns out+i≤t.ns.length∧out.length=i∧Ww t.ns (t.ns.length+1-i) out=Ib t.ns) ?_ ?_
  ·simp only[go_sem,aa];refine⟨[],x9.nil,h0,rfl,rfl⟩
  rintro i s' D0 ⟨out,eb,f1,b1,acc,ho,hol,hor⟩;simp only[go_sem]
  refine fp t.ns.length (fun k s'=>s'.base=0∧s'.tmp 1= .ie 1 (s'.av 1) 0∧s'.dc 1=some (.loc [.d (.gz 2 (t.ps.map ti)),.d (.gz 5 (t.ns.map zw))])∧x9 s' 47 1 (out.map ss) (s'.tmp 3)∧
   s'.tmp 5= .d (.int ab k)∧s'.tmp 4= .d (.str ((t.ns.take k).foldl (oz out) ⟨#[]⟩))) ?_ ?_
  ·simp only[go_sem,aa,eb,f1,b1];exact⟨acc.mono rfl rfl,by simp⟩
  clear eb f1 b1 acc;rintro k s2 hk ⟨eb,f1,b1,acc,f5,f4⟩;by_cases hlt:(k:Int)<t.ns.length
  ·have dq:k<t.ns.length:=by omega
   have wk:=dh ((k:Int)+1) (by omega) (by omega);have hg:=Kh dq
   have hgn:t.ns.getD k n0=t.ns[k]:=by simp[cw,dq]
   have hni:=hi _ (df dq)
   have tn:(t.ns.take (k+1)).foldl (oz out) ⟨#[]⟩=oz out ((t.ns.take k).foldl (oz out) ⟨#[]⟩) t.ns[k]:=by
    rw[gl,pn];simp[dq]
   rw[hgn]at hg;have hh:=azl A out t.ns[k].n (by omega);have hr:=aw6 A t.ns[k] out hni (by omega)
   generalize(t.ns.take k).foldl (oz out) ⟨#[]⟩=Ef at*
   generalize t.ns[k]=n at*
   simp only[ng,zw,vn,ku]at hh hr hg;simp only[go_sem,aa,ae,ah,reduceCtorEq,eb,f1,b1,f5,ag,hlt,hg,bp,ao];refine(acc.mono (by simp[aj]) (by simp[aj])).aF9 hh rfl ?_;cases c1:hasB out n.n
   ·simp only[go_sem,aa,ae];refine(acc.mono (by simp[aj]) (by simp[aj])).aF8 hr rfl ?_;cases c2:L8 n out
    ·have e:oz out Ef n=Ef:=by unfold oz;rw[c1,c2];rfl
     simp only[go_sem,aa,reduceCtorEq,f1,b1,f4,f5,wk,dq,tn,e];exact⟨acc.mono (by simp[aj]) (by simp[aj]),by simp⟩
    cases c3:isE Ef
    ·have c3':=c3;unfold isE at c3';cases c4:strLt n.n Ef
     ·have c4':=c4;unfold strLt at c4'
      have e:oz out Ef n=Ef:=by unfold oz;rw[c1,c2,c3,c4];rfl
      simp only[go_sem,aa,ae,ah,reduceCtorEq,f1,b1,f4,f5,c3',c4',wk,dq,tn,e];exact⟨acc.mono (by simp[aj]) (by simp[aj]),by simp⟩
     have c4':=c4;unfold strLt at c4'
     have e:oz out Ef n=n.n:=by unfold oz;rw[c1,c2,c3,c4];rfl
     simp only[go_sem,aa,ae,ah,reduceCtorEq,f1,b1,f4,f5,c3',c4',wk,dq,tn,e];exact⟨acc.mono (by simp[aj]) (by simp[aj]),by simp⟩
    have c3':=c3;unfold isE at c3'
    have e:oz out Ef n=n.n:=by unfold oz;rw[c1,c2,c3];rfl
    simp only[go_sem,aa,ae,ah,reduceCtorEq,f1,b1,f4,f5,c3',wk,dq,tn,e];exact⟨acc.mono (by simp[aj]) (by simp[aj]),by simp⟩
   have e:oz out Ef n=Ef:=by unfold oz;rw[c1];rfl
   simp only[go_sem,aa,reduceCtorEq,f1,b1,f4,f5,wk,dq,tn,e];exact⟨acc.mono (by simp[aj]) (by simp[aj]),by simp⟩
  have:k=t.ns.length:=by omega
  subst this;rw[eh]at f4
  have hfu:t.ns.length+1-i=(t.ns.length-i)+1:=by omega
  rw[hfu]at hor;have hbe:t.ns.foldl (oz out) ⟨#[]⟩=P5 t.ns out:=rfl;rw[hbe]at f4;simp only[go_sem,aa,ae,reduceCtorEq,eb,f1,b1,f4,f5,ag,hlt];cases c5:isE (P5 t.ns out)
  ·have c5':=c5;unfold isE at c5';have hop:=ax5 c5;rw[Ww,c5]at hor;simp only[go_sem,aa,di,f4,c5'];refine uh (dm:=out.map ss) (ys:=[ss (P5 t.ns out)]) (osz:=some 1) ?_ ?_ rfl (by simp[ss,D.one]) ?_ (by simp) ?_
   ·simp only[go_sem,aa];exact acc.mono (by simp[aj]) (by simp[aj])
   ·simp only[go_sem,aa,qh];rfl
   ·simp only[ag,cj,du];omega
   intro s3 g;have Hg:=g.acc (by simp);rw[g.tmp,cu]at Hg;simp only[gd]at Hg;have gv:=g.av 1 (by simp)
   have gb:s3.dc 1=s2.dc 1:=by rw[g.dc];simp[aj]
   simp only[go_sem,aa,g.tmp,f1,g.base,gb,gv,b1];refine⟨by omega,out++[P5 t.ns out],?_,by omega,by simp[hol],?_⟩
   ·rw[fl];exact Hg.mono rfl rfl
   have e2:t.ns.length+1-(i+1)=t.ns.length-i:=by omega
   rw[e2];exact hor
  have c5':=c5;unfold isE at c5';rw[Ww,c5]at hor;have hor:out=Ib t.ns:=hor;subst hor;simp only[go_sem,aa,c5'];rcases acc with ⟨a1,a2⟩|⟨a1,a2,a3⟩
  ·simp only[go_sem,a1,a2]
  rw[al a1,a2];simp only[go_sem,a3,ag]
 refine main.M8 fun G v hv=>?_;split at hv
 ·rename_i he;unfold ng;rw[he];exact Lh G v hv
 exact hv
end
def Th(ns:List Nd)(s:ByteArray):Bool:=ns.any fun n=>kz n.n s
def a61:List Nd→ByteArray→Int→Int
 |[],_,_=> -1
 |n::r,s,i=>if kz n.n s then i else a61 r s (i+1)
theorem atb(ns:List Nd)(s:ByteArray):∀i:Int,0≤i→(a61 ns s i<0↔Th ns s=false):=by
 induction ns with
 |nil=>intro i _;simp[a61,Th]
 |cons n r ih=>
  intro i hi;unfold a61 Th;cases h:kz n.n s
  ·simp only[fw,bn,aKs,h,Q2];exact ih (i+1) (by omega)
  simp[h];omega
theorem ap4{ns:List Nd}{s:ByteArray}{k:Nat}(h:k<ns.length):a61 (ns.drop k) s k=if kz ns[k].n s then(k:Int)else a61 (ns.drop (k+1)) s ((k+1:Nat):Int):=by
 rw[jj h];rfl
def Aj(pr:List (List Sp)→Bool)(t:Tr)(i:Nat):Bool:=
 yc (t.ns.getD i n0).n&&(w9 (t.ns.map Nd.n) i&&(v7 pr (t.ns.getD i n0).f&&(((t.ns.getD i n0).ins.length:Int)==kIn (t.ns.getD i n0).f.k.toNat&&
  (((dt (t.ns.getD i n0).ins.length).all fun k=>Th t.ns ((t.ns.getD i n0).ins.getD k ⟨#[]⟩))&&(r9 pr (t.ns.getD i n0).f t.ps).2==0))))
def zz(pr:List (List Sp)→Bool)(t:Tr):Bool:=
 xt t.ps&&(decide (t.ns.length≤20)&&((dt t.ns.length).all (Aj pr t)&&((Ib t.ns).length:Int)==t.ns.length))
def Nu(t:Tr):Prop:=t.ns.length≤1000∧∀n∈t.ns,n.ins.length≤2^30∧n.f.vs.length≤2^30∧n.f.ls.length≤2^30∧∀l∈n.f.ls,l.length≤2^30
section
variable{P:Program}(A:Pr P)
theorem awk(t:Tr)(s:ByteArray)(hl:t.ns.length≤2^40):iz P A.F9 [.agg (ud t),.str s] (.int ab (a61 t.ns s 0)):=by
 refine ec A.mo A.a8w (by simp) ?_;show kq P Qb (mb _ _) _;simp only[Qb,ud,jq,l5,go_sem,cq,ae];refine fp t.ns.length (fun k s'=>s'.tmp 1= .d (.str s)∧s'.tmp 2= .ie 2 (s'.av 2) 0∧s'.dc 2=some (.loc [.d (.gz 2 (t.ps.map ti)),.d (.gz 5 (t.ns.map zw))])∧s'.tmp 5= .d (.int ab k)∧a61 (t.ns.drop k) s k=a61 t.ns s 0) ?_ ?_
 ·simp only[go_sem,aa,aLq,a2m]
 rintro k s' hk ⟨f1,f2,b2,f5,hI⟩;by_cases hlt:(k:Int)<t.ns.length
 ·have dq:k<t.ns.length:=by omega
  have wk:=dh ((k:Int)+1) (by omega) (by omega);have hg:=Kh dq
  have hgn:t.ns.getD k n0=t.ns[k]:=by simp[cw,dq]
  rw[hgn]at hg;rw[ap4 dq]at hI;simp only[go_sem,aa,cq,ae,ah,reduceCtorEq,f1,f2,b2,f5,ag,hlt,hg,bp,ao];cases c:(t.ns[k].n.toList==s.toList)
  ·unfold kz at hI;rw[c]at hI;simp only[go_sem,aa,cq,reduceCtorEq,f1,f2,b2,f5,wk,dq];refine⟨by simp,?_⟩;simpa using hI
  unfold kz at hI;rw[c]at hI;simp only[cz]at hI;simp only[go_sem,aa,cq,f5,hI]
 have:k=t.ns.length:=by omega
 subst this;rw[Pc]at hI;simp only[a61]at hI;simp only[go_sem,aa,cq,ae,reduceCtorEq,f2,b2,f5,ag,hlt,←hI]
theorem anv(t:Tr)(hs:Nu t):iz P A.F8 [.agg (ud t)] (.bool (zz qx t)):=by
 refine ec A.mo A.a8u (by simp) ?_;show kq P (Q9 A.pv A.tg A.xz A.Dy A.F9 A.Am A.D5) (mb _ _) _;obtain⟨hs1,hs2⟩:=hs;have hrp:=W9 A t.ps;simp only[jq]at hrp;unfold zz;simp only[Q9,ud,jq,l5,go_sem,aa,ae,ah];refine ft hrp ?_;cases c1:xt t.ps
 ·simp only[go_sem,aa,dz]
 by_cases c2:(20:Int)<t.ns.length
 ·have c2':¬t.ns.length≤20:=by omega
  simp only[go_sem,aa,ae,reduceCtorEq,ag,c2,c2',dz]
 have c2':t.ns.length≤20:=by omega
 simp only[go_sem,aa,ae,reduceCtorEq,ag,c2,c2'];refine fp t.ns.length (fun i s'=>s'.base=0∧s'.tmp 1= .ie 1 (s'.av 1) 0∧s'.dc 1=some (.loc [.d (.gz 2 (t.ps.map ti)),.d (.gz 5 (t.ns.map zw))])∧s'.tmp 3= .d (.int ab i)∧∀i',i'<i→Aj qx t i'=true) ?_ ?_
 ·simp only[go_sem,aa];simp
 rintro i s' hi ⟨eb,f1,b1,f3,hI⟩;by_cases hlt:(i:Int)<t.ns.length
 ·have dq:i<t.ns.length:=by omega
  have wi:=dh ((i:Int)+1) (by omega) (by omega);have hg:=Kh dq
  have hgn:t.ns.getD i n0=t.ns[i]:=by simp[cw,dq]
  obtain⟨q1,q2,q3,q4⟩:=hs2 _ (df dq);rw[hgn]at hg
  have Bs:Aj qx t i=(yc t.ns[i].n&&(w9 (t.ns.map Nd.n) i&&(v7 qx t.ns[i].f&&((t.ns[i].ins.length:Int)==kIn t.ns[i].f.k.toNat&&(((dt t.ns[i].ins.length).all fun k=>Th t.ns (t.ns[i].ins.getD k ⟨#[]⟩))&&(r9 qx t.ns[i].f t.ps).2==0))))):=by
   unfold Aj;rw[hgn]
  have no:Aj qx t i=false→((dt t.ns.length).all (Aj qx t)&&((Ib t.ns).length:Int)==t.ns.length)=false:=fun h=>by rw[all_false dq h,dz]
  have aBs:=a9x A t.ns[i].f q2 q3 q4;have a68:=aep A t.ns[i].f t.ps q2 q3 q4;have U8:=aic A t.ns[i].n
  have am3:∀h:0<i,w9 (t.ns.map Nd.n) i=strLt t.ns[i-1].n t.ns[i].n:=fun h=>by
   unfold w9
   have:i-1<t.ns.length:=by omega
   have h0:i≠0:=by omega
   simp[h0,this,dq]
  have hg':∀h:0<i,(t.ns.map zw)[i-1]? =some [.str t.ns[i-1].n,.int ab t.ns[i-1].f.k,vn t.ns[i-1].f.vs,ku t.ns[i-1].f.ls,ng t.ns[i-1].ins]:=fun h=>by
   have:i-1<t.ns.length:=by omega
   simp[this,zw]
  generalize hnn:t.ns[i]=n at*
  simp only[vn,ku,ng]at hg hg';simp only[cFt,vn,ku]at aBs a68;simp only[jq,a7f]at a68;simp only[go_sem,aa,ae,ah,reduceCtorEq,eb,f1,b1,f3,ag,hlt,hg,bp,ao];refine ft U8 ?_
  refine Yb (fun s'=>s'.base=0∧s'.tmp 1= .ie 1 (s'.av 1) 0∧s'.dc 1=some (.loc [.d (.gz 2 (t.ps.map ti)),.d (.gz 5 (t.ns.map zw))])∧s'.tmp 3= .d (.int ab i)∧s'.tmp 4= .ie 4 (s'.av 4) 0∧
   s'.dc 4=some (.loc [.d (.str n.n),.d (.int ab n.f.k),.d (.gz 3 (n.f.vs.map Gj)),.d (.gz 1 (n.f.ls.map fun l=>[xf l])),.d (.gz 1 (n.ins.map ss))])∧
   s'.tmp 65= .d (.bool !(yc n.n&&(w9 (t.ns.map Nd.n) i&&(v7 qx n.f&&(n.ins.length:Int)==kIn n.f.k.toNat))))) ?_ ?_
  ·cases d1:yc n.n
   ·simp only[go_sem,aa,f1,b1,f3,dz]
   by_cases d2:0<i
   ·have d2':(0:Int)<i:=by omega
    have w1:=dh ((i:Int)-1) (by omega) (by omega)
    have z:(0:Int)≤(i:Int)-1:=by omega
    rw[am3 d2];cases d3:strLt t.ns[i-1].n n.n
    ·have d3':=d3;unfold strLt at d3';simp only[go_sem,aa,ae,ah,reduceCtorEq,f1,b1,f3,d2',w1,J6 d2',hg' d2,z,d3',dz,qq]
    have d3':=d3;unfold strLt at d3';simp only[go_sem,aa,ae,ah,reduceCtorEq,f1,b1,f3,d2',w1,J6 d2',hg' d2,z,d3'];refine ft aBs ?_;cases d4:v7 qx n.f
    ·simp only[go_sem,aa,f1,b1,f3,dz]
    have hk:0≤n.f.k∧n.f.k<14:=by
     have:=d4;unfold v7 at this;simp only[da,decide_eq_true_eq]at this;exact this.1
    have hkc:((n.f.k.toNat:Nat):Int)=n.f.k:=by omega
    have hin:=aer A (k:=n.f.k.toNat) (by omega);rw[hkc]at hin;simp only[go_sem,aa,ae,ah,ag];refine ft hin ?_;simp only[go_sem,aa,reduceCtorEq,f1,b1,f3,bne]
   have d2':¬(0:Int)<i:=by omega
   have hr0:w9 (t.ns.map Nd.n) i=true:=by unfold w9;simp;omega
   rw[hr0];simp only[go_sem,aa,ae,ah,reduceCtorEq,f3,d2'];refine ft aBs ?_;cases d4:v7 qx n.f
   ·simp only[go_sem,aa,f1,b1,f3,dz]
   have hk:0≤n.f.k∧n.f.k<14:=by
    have:=d4;unfold v7 at this;simp only[da,decide_eq_true_eq]at this;exact this.1
   have hkc:((n.f.k.toNat:Nat):Int)=n.f.k:=by omega
   have hin:=aer A (k:=n.f.k.toNat) (by omega);rw[hkc]at hin;simp only[go_sem,aa,ae,ah,ag];refine ft hin ?_;simp only[go_sem,aa,reduceCtorEq,f1,b1,f3,bne]
  clear eb f1 b1 f3;rintro s3 ⟨eb,f1,b1,f3,f4,b4,f65⟩;cases e1:(yc n.n&&(w9 (t.ns.map Nd.n) i&&(v7 qx n.f&&(n.ins.length:Int)==kIn n.f.k.toNat)))
  ·rw[e1]at f65
   have:Aj qx t i=false:=by
    rw[Bs];revert e1;cases yc n.n<;>cases w9 (t.ns.map Nd.n) i<;>cases v7 qx n.f<;>cases((n.ins.length:Int)==kIn n.f.k.toNat)<;>simp
   simp only[go_sem,f65,no this]
  rw[e1]at f65;simp only[da]at e1;obtain⟨e1a,e1b,e1c,e1d⟩:=e1;rw[e1a,e1b,e1c,e1d]at Bs;simp only[u9]at Bs;simp only[go_sem,eb,f65]
  refine fp n.ins.length (fun k s'=>s'.base=0∧s'.tmp 1= .ie 1 (s'.av 1) 0∧s'.dc 1=some (.loc [.d (.gz 2 (t.ps.map ti)),.d (.gz 5 (t.ns.map zw))])∧s'.tmp 3= .d (.int ab i)∧s'.tmp 4= .ie 4 (s'.av 4) 0∧
   s'.dc 4=some (.loc [.d (.str n.n),.d (.int ab n.f.k),.d (.gz 3 (n.f.vs.map Gj)),.d (.gz 1 (n.f.ls.map fun l=>[xf l])),.d (.gz 1 (n.ins.map ss))])∧s'.tmp 5= .d (.int ab k)∧∀k',k'<k→Th t.ns (n.ins.getD k' ⟨#[]⟩)=true) ?_ ?_
  ·simp only[go_sem,aa,f1,b1,f3,f4,b4];simp
  clear eb f1 b1 f3 f4 b4;rintro k s4 hk ⟨eb,f1,b1,f3,f4,b4,f5,hK⟩;by_cases Hf:(k:Int)<n.ins.length
  ·have rb:k<n.ins.length:=by omega
   have wk:=dh ((k:Int)+1) (by omega) (by omega);have hix:=awk A t (n.ins.getD k ⟨#[]⟩) (by omega);have aya:=atb t.ns (n.ins.getD k ⟨#[]⟩) 0 (by omega);simp only[ud,jq,l5]at hix;simp only[go_sem,aa,ae,reduceCtorEq,eb,f1,b1,f4,b4,f5,ag,Hf,F3 rb,bp,ao];refine j5 hix ?_;cases c5:Th t.ns (n.ins.getD k ⟨#[]⟩)
   ·have hn:=aya.2 c5
    have:Aj qx t i=false:=by rw[Bs,all_false rb c5,dz]
    simp only[go_sem,aa,reduceCtorEq,hn,no this]
   have hn:¬a61 t.ns (n.ins.getD k ⟨#[]⟩) 0<0:=fun h=>by rw[aya.1 h]at c5;cases c5
   simp only[go_sem,aa,reduceCtorEq,f1,b1,f3,f4,b4,f5,hn,wk,rb];exact⟨by simp,qw hK c5⟩
  have:k=n.ins.length:=by omega
  subst this;rw[all_true hK,u9]at Bs;simp only[go_sem,aa,ae,ah,reduceCtorEq,eb,f1,b1,f3,f4,b4,f5,ag,Hf];refine j5 a68 ?_;cases c6:((r9 qx n.f t.ps).2==0)
  ·have c6':((r9 qx n.f t.ps).2 !=0)=true:=by unfold bne;rw[c6];rfl
   have:Aj qx t i=false:=by rw[Bs,c6]
   simp only[go_sem,aa,reduceCtorEq,c6',no this]
  have c6':((r9 qx n.f t.ps).2 !=0)=false:=by unfold bne;rw[c6];rfl
  simp only[go_sem,aa,reduceCtorEq,f1,b1,f3,c6',wi,dq];exact⟨by simp,qw hI (by rw[Bs,c6])⟩
 have:i=t.ns.length:=by omega
 subst this;rw[all_true hI]
 have ho:=awh A t (by omega) (fun n hn=>by have:=(hs2 n hn).1;omega)
 simp only[ud,jq,l5,ng]at ho;simp only[go_sem,aa,ae,reduceCtorEq,eb,f1,b1,f3,ag,hlt];refine ft ho ?_;simp only[go_sem,aa,ae,reduceCtorEq,f1,b1,ag]
end
def Wk(x y:D):Prop:=∀G v,i6 G x v→i6 G y v
theorem Wk.refl(x:D):Wk x x:=fun _ _ h=>h
theorem Wk.trans{x y z:D}(h:Wk x y)(k:Wk y z):Wk x z:=fun G v hv=>k G v (h G v hv)
theorem Wk.ck{sz:Nat}:Wk .ck (.gz sz []):=Lh
theorem Wk.agg{xs ys:List D}(hl:xs.length=ys.length)(h:∀(i:Nat) (x y:D),xs[i]? =some x→ys[i]? =some y→Wk x y):Wk (.agg xs) (.agg ys):=by
 intro G v hv
 cases hv with
 | @agg _ vs k1 k2=>
  refine .agg (by omega) fun i y u hy hu=>?_
  have hi:i<xs.length:=by have:=(aw.1 hy).1;omega
  exact h i xs[i] y (ax hi) hy G u (k2 i _ u (ax hi) hu)
theorem Wk.gz{sz:Nat}{xs ys:List (List D)}(hl:xs.length=ys.length)(h:∀(i:Nat) (a b:List D),xs[i]? =some a→ys[i]? =some b→a.length=b.length∧∀(j:Nat) (x y:D),a[j]? =some x→b[j]? =some y→Wk x y):Wk (.gz sz xs) (.gz sz ys):=by
 intro G v hv
 cases hv with
 |Vq=>
  have:ys=[]:=j1 (by simpa using hl.symm);subst this;exact .Vq
 |Y2=>
  have:ys=[]:=j1 (by simpa using hl.symm);subst this;exact .Y2
 | @gz _ _ b o c hc hs h1 h2=>
  rw[hl]at hc h1⊢
  have get:∀(i:Nat) (e:List D),ys[i]? =some e→∃a:List D,xs[i]? =some a∧a.length=e.length:=fun i e he=>by
   have hi:i<xs.length:=by have:=(aw.1 he).1;omega
   exact⟨xs[i],ax hi,(h i _ e (ax hi) he).1⟩
  refine .gz hc (fun i e he=>?_) h1 (fun i e j x u he hx hu=>?_)
  ·obtain⟨a,ha,hal⟩:=get i e he;rw[←hal];exact hs i a ha
  obtain⟨a,ha,hal⟩:=get i e he
  have hj:j<a.length:=by have:=(aw.1 hx).1;omega
  exact(h i a e ha he).2 j a[j] x (ax hj) hx G u (h2 i a j _ u ha (ax hj) hu)
def C6(sz:Nat)(dm:List (List D)):D:=if dm=[]then .ck else .gz sz dm
theorem Kj{sz:Nat}{dm:List (List D)}:Wk (C6 sz dm) (.gz sz dm):=by
 unfold C6;split
 ·rename_i h;rw[h];exact Wk.ck
 exact Wk.refl _
theorem x9.Ye{s:PS}{id sz:Nat}{dm:List (List D)}{v:V}(h:x9 s id sz dm v):Ye s v=some (C6 sz dm):=by
 rcases h with ⟨rfl,rfl⟩|⟨h1,rfl,h3⟩
 ·rfl
 unfold C6;rw[al h1];simp only[PI.Ye,Qs,PS.dm,h3,cz,aLg]
theorem x9.cells{s:PS}{id sz:Nat}{dm:List (List D)}{v:V}(h:x9 s id sz dm v):∃c,v.cells s=some [c]∧c.toV=v∧c.one s=true∧Qs s c=some (C6 sz dm,if dm=[]then[]else[id]):=by
 rcases h with ⟨rfl,rfl⟩|⟨h1,rfl,h3⟩
 ·exact⟨.d .ck,rfl,rfl,rfl,by simp[Qs,C6]⟩
 have he:PS.dm s id (s.av id)=some (sz,dm):=by unfold PS.dm;rw[bd rfl,h3]
 have hn:=ak7 he;refine⟨.ref id (s.av id) dm.length,by simp[V.cells,hn],rfl,by simp[C.one,V.live,hn],by simp[Qs,he,C6,h1]⟩
section
variable{P:Program}(A:Pr P)
theorem are(l:List Pm)(hl:l.length*24≤2^47):iz P A.C0 [jq l] (jq l):=by
 have main:iz P A.C0 [jq l] (C6 2 (l.map ti)):=by
  refine ec A.mo A.a6j (by simp) ?_;show kq P On (mb _ _) _;simp only[On,jq,go_sem];refine fp l.length (fun i s'=>s'.base=0∧s'.tmp 0= .d (.gz 2 (l.map ti))∧s'.tmp 4= .d (.int ab i)∧x9 s' 24 2 ((l.take i).map ti) (s'.tmp 3)) ?_ ?_
  ·simp only[go_sem,aa,reduceCtorEq];exact x9.nil
  rintro i s' hi ⟨eb,f0,f4,acc⟩;by_cases hlt:(i:Int)<l.length
  ·have dq:i<l.length:=by omega
   have wi:=dh ((i:Int)+1) (by omega) (by omega);simp only[go_sem,aa,ae,ah,reduceCtorEq,di,eb,f0,f4,ag,hlt,Zd dq,bp,ao];refine uh (dm:=(l.take i).map ti) (ys:=[ti l[i]]) (osz:=some 2) ?_ ?_ rfl (by simp[ti,D.one]) ?_ (by simp) ?_
   ·simp only[go_sem,aa];exact acc.mono (by simp[aj]) (by simp[aj])
   ·simp only[go_sem,aa,qh];rfl
   ·simp only[ag,cj,du,er];omega
   intro s3 g;have Hg:=g.acc (by simp);rw[g.tmp,cu]at Hg;simp only[gd]at Hg;simp only[go_sem,aa,reduceCtorEq,g.tmp,f0,f4,wi,g.base,dq];refine⟨by simp,?_⟩
   have e1:(l.take (i+1)).map ti=(l.take i).map ti++[ti l[i]]:=by
    rw[gl,fl];simp[dq]
   rw[e1];exact Hg.mono rfl rfl
  have:i=l.length:=by omega
  subst this;rw[eh]at acc;simp only[go_sem,aa,reduceCtorEq,eb,f0,f4,ag,hlt];have:=acc.Ye;rcases acc with ⟨a1,a2⟩|⟨a1,a2,a3⟩
  ·simp only[a1,a2,C6,cz]
  simp only[C6,al a1,a2,a3,cz]
 exact main.M8 Kj
def cLp(l:List Sp):List D:=[C6 2 (l.map C5)]
theorem aqd(ls:List (List Sp)):Wk (C6 1 (ls.map cLp)) (ku ls):=by
 refine Kj.trans (Wk.gz (by simp) fun i a b ha hb=>?_);simp only[cy,aq]at ha hb;obtain⟨l,hl,rfl⟩:=ha;obtain⟨l',hl',rfl⟩:=hb;rw[hl]at hl'
 injection hl' with hl'
 subst hl';refine⟨rfl,fun j x y hx hy=>?_⟩
 match j with
 |0=>simp only[cLp,dv,ak]at hx hy;subst hx hy;exact Kj
 |j+1=>simp[cLp]at hx
theorem anq(ls:List (List Sp))(h1:ls.length≤2^30)(h2:∀l∈ls,l.length≤2^30):iz P A.Db [.agg [ku ls]] (ku ls):=by
 have main:iz P A.Db [.agg [ku ls]] (C6 1 (ls.map cLp)):=by
  refine ec A.mo A.a9d (by simp) ?_;show kq P Qo (mb _ _) _;simp only[Qo,ku,go_sem];refine fp ls.length (fun i s'=>s'.base=0∧s'.tmp 1= .ie 1 (s'.av 1) 0∧s'.dc 1=some (.loc [.d (.gz 1 (ls.map fun l=>[xf l]))])∧s'.tmp 4= .d (.int ab i)∧x9 s' 38 1 ((ls.take i).map cLp) (s'.tmp 3)) ?_ ?_
  ·simp only[go_sem,aa];exact x9.nil
  rintro i s' hi ⟨eb,f1,b1,f4,acc⟩;by_cases hlt:(i:Int)<ls.length
  ·have dq:i<ls.length:=by omega
   have wi:=dh ((i:Int)+1) (by omega) (by omega);have hgi:=Fu dq;have hli:=h2 _ (df dq);simp only[go_sem,aa,reduceCtorEq,eb,f1,b1,f4,ag,hlt]
   refine fp ls[i].length (fun k s'=>s'.base=0∧s'.tmp 1= .ie 1 (s'.av 1) 0∧s'.dc 1=some (.loc [.d (.gz 1 (ls.map fun l=>[xf l]))])∧s'.tmp 4= .d (.int ab i)∧x9 s' 38 1 ((ls.take i).map cLp) (s'.tmp 3)∧
    s'.tmp 6= .d (.int ab k)∧x9 s' 34 2 ((ls[i].take k).map C5) (s'.tmp 5)) ?_ ?_
   ·simp only[go_sem,aa,f1,b1,f4];exact⟨acc.mono rfl rfl,x9.nil⟩
   clear eb f1 b1 f4 acc;rintro k s2 hk ⟨eb,f1,b1,f4,acc,f6,ads⟩;by_cases Hf:(k:Int)<ls[i].length
   ·have rb:k<ls[i].length:=by omega
    have wk:=dh ((k:Int)+1) (by omega) (by omega);simp only[go_sem,aa,ae,reduceCtorEq,di,eb,f1,b1,f4,f6,ag,Hf,hgi,Dl rb,bp,ao];refine uh (dm:=(ls[i].take k).map C5) (ys:=[C5 (ls[i].getD k (0,0))]) (osz:=some 2) ?_ ?_ rfl (by simp[C5,D.one]) ?_ (by simp) ?_
    ·simp only[go_sem,aa];exact ads.mono (by simp[aj]) (by simp[aj])
    ·simp only[go_sem,aa,qh];rfl
    ·simp only[ag,cj,du,er];omega
    intro s3 g;have Hg:=g.acc (by simp);rw[g.tmp,cu]at Hg;simp only[gd]at Hg;have gv:=g.av 1 (by simp)
    have gb:s3.dc 1=s2.dc 1:=by rw[g.dc];simp[aj]
    have gv':=g.av 38 (by simp)
    have gb':s3.dc 38=s2.dc 38:=by rw[g.dc];simp[aj]
    simp only[go_sem,aa,reduceCtorEq,g.tmp,f1,f4,f6,wk,g.base,rb,gv,gb,b1];refine⟨acc.mono (by simp[gv',aj]) gb',by simp,?_⟩
    have e1:(ls[i].take (k+1)).map C5=(ls[i].take k).map C5++[C5 (ls[i].getD k (0,0))]:=by
     rw[gl,fl];simp[rb,cw]
    rw[e1];exact Hg.mono rfl rfl
   have:k=ls[i].length:=by omega
   subst this;rw[eh]at ads
   have e1:(ls.take (i+1)).map cLp=(ls.take i).map cLp++[cLp ls[i]]:=by
    rw[gl,fl];simp[dq]
   rcases ads with ⟨a1,a2⟩|⟨a1,a2,a3⟩
   ·have hc:cLp ls[i]=[.ck]:=by unfold cLp C6;rw[bd a1]
    simp only[go_sem,aa,reduceCtorEq,di,eb,f1,b1,f4,f6,ag,Hf,hgi,bp,ao,a2];refine uh (dm:=(ls.take i).map cLp) (ys:=[cLp ls[i]]) (osz:=some 1) ?_ ?_ rfl (by rw[hc];rfl) ?_ (by simp) ?_
    ·simp only[go_sem,aa];exact acc.mono (by simp[aj]) (by simp[aj])
    ·simp only[go_sem,aa,qh,hc]
    ·simp only[ag,cj,du,er];omega
    intro s3 g;have Hg:=g.acc (by simp);rw[g.tmp,cu]at Hg;simp only[gd]at Hg;have gv:=g.av 1 (by simp)
    have gb:s3.dc 1=s2.dc 1:=by rw[g.dc];simp[aj]
    simp only[go_sem,aa,reduceCtorEq,g.tmp,f1,f4,wi,g.base,dq,gv,gb,b1,e1];exact⟨by simp,Hg.mono rfl rfl⟩
   have hc:cLp ls[i]=[.gz 2 (ls[i].map C5)]:=by unfold cLp C6;rw[al a1]
   simp only[go_sem,aa,reduceCtorEq,di,eb,f1,b1,f4,f6,ag,Hf,hgi,bp,ao,a2,a3];refine uh (dm:=(ls.take i).map cLp) (ys:=[cLp ls[i]]) (osz:=some 1) ?_ ?_ rfl (by rw[hc];rfl) ?_ (by simp) ?_
   ·simp only[go_sem,aa];exact acc.mono (by simp[aj]) (by simp[aj])
   ·simp only[go_sem,aa,qh,hc]
   ·simp only[ag,cj,du,er];omega
   intro s3 g;have Hg:=g.acc (by simp);rw[g.tmp,cu]at Hg;simp only[gd]at Hg;have gv:=g.av 1 (by simp)
   have gb:s3.dc 1=s2.dc 1:=by rw[g.dc];simp[aj]
   simp only[go_sem,aa,reduceCtorEq,g.tmp,f1,f4,wi,g.base,dq,gv,gb,b1,e1];exact⟨by simp,Hg.mono rfl rfl⟩
  have:i=ls.length:=by omega
  subst this;rw[eh]at acc;simp only[go_sem,aa,reduceCtorEq,eb,f1,b1,f4,ag,hlt];rcases acc with ⟨a1,a2⟩|⟨a1,a2,a3⟩
  ·simp only[a1,a2,C6,cz]
  simp only[C6,al a1,a2,a3,cz]
 exact main.M8 (aqd ls)
end
def a1a(s:PS)(id sz:Nat)(dm:List (List D))(c:C):Prop:=
 (dm=[]∧c= .d .ck)∨(dm≠[]∧c= .ref id (s.av id) dm.length∧s.dc id=some (.arr sz dm))
theorem a1a.acc{s:PS}{id sz:Nat}{dm:List (List D)}{c:C}(h:a1a s id sz dm c):x9 s id sz dm c.toV:=by
 rcases h with ⟨h1,rfl⟩|⟨h1,rfl,h3⟩
 ·exact .inl ⟨h1,rfl⟩
 exact .inr ⟨h1,rfl,h3⟩
theorem a1a.mono{s s':PS}{id sz:Nat}{dm:List (List D)}{c:C}(h:a1a s id sz dm c)(hv:s'.av id=s.av id)(hb:s'.dc id=s.dc id):a1a s' id sz dm c:=by
 rcases h with ⟨h1,h2⟩|⟨h1,h2,h3⟩
 ·exact .inl ⟨h1,h2⟩
 exact .inr ⟨h1,by rw[hv];exact h2,by rw[hb];exact h3⟩
theorem a1a.nil{s:PS}{id sz:Nat}:a1a s id sz [] (.d .ck):= .inl ⟨rfl,rfl⟩
def wFt(f:Ft):D:= .agg [.int ab f.k,C6 3 (f.vs.map Gj),ku f.ls]
section
variable{P:Program}(A:Pr P)
theorem anp(f:Ft)(hv:f.vs.length≤2^30)(h1:f.ls.length≤2^30)(h2:∀l∈f.ls,l.length≤2^30):iz P A.Da [.agg (cFt f)] (.agg (cFt f)):=by
 have main:iz P A.Da [.agg (cFt f)] (wFt f):=by
  refine ec A.mo A.a9b (by simp) ?_;show kq P (Qm A.Db) (mb _ _) _;have ht:=anq A f.ls h1 h2;simp only[ku]at ht;simp only[Qm,cFt,vn,ku,go_sem,aa,ae,ah];refine ft ht ?_;simp only[go_sem,aa,ae,ah]
  refine fp f.vs.length (fun i s'=>s'.base=0∧s'.tmp 1= .ie 1 (s'.av 1) 0∧s'.dc 1=some (.loc [.d (.int ab f.k),.d (.gz 3 (f.vs.map Gj)),.d (.gz 1 (f.ls.map fun l=>[xf l]))])∧s'.tmp 4= .d (.int ab i)∧
   s'.tmp 2= .ie 2 (s'.av 2) 0∧s'.dc 2=some (.loc [.d (.int ab 0),.d .ck,.d .ck])∧s'.tmp 3= .ie 3 (s'.av 3) 0∧
   ∃c,s'.dc 3=some (.loc [.d (.int ab f.k),c,.d (.gz 1 (f.ls.map fun l=>[xf l]))])∧a1a s' 36 3 ((f.vs.take i).map Gj) c) ?_ ?_
  ·simp only[go_sem,aa];exact⟨_,rfl,a1a.nil⟩
  rintro i s' hi ⟨eb,f1,b1,f4,f2,b2,f3,c,b3,acc⟩;by_cases hlt:(i:Int)<f.vs.length
  ·have dq:i<f.vs.length:=by omega
   have wi:=dh ((i:Int)+1) (by omega) (by omega)
   have e1:(f.vs.take (i+1)).map Gj=(f.vs.take i).map Gj++[Gj (f.vs.getD i v0)]:=by
    rw[gl,fl];simp[dq,cw]
   simp only[go_sem,aa,ae,ah,reduceCtorEq,di,eb,f1,b1,f3,b3,f4,ag,hlt,Zc dq,bp,ao];refine uh (dm:=(f.vs.take i).map Gj) (ys:=[Gj (f.vs.getD i v0)]) (osz:=some 3) ?_ ?_ rfl (by simp[Gj,D.one]) ?_ (by simp) ?_
   ·simp only[go_sem,aa];have:=acc.acc;cases c<;>exact this.mono (by simp[aj]) (by simp[aj])
   ·simp only[go_sem,aa,qh,Gj]
   ·simp only[ag,cj,du,er];omega
   intro s3 g;have gv1:=g.av 1 (by simp);have gv2:=g.av 2 (by simp);have gv3:=g.av 3 (by simp)
   have gb1:s3.dc 1=s'.dc 1:=by rw[g.dc];simp[aj]
   have gb2:s3.dc 2=s'.dc 2:=by rw[g.dc];simp[aj]
   have gb3:s3.dc 3=s'.dc 3:=by rw[g.dc];simp[aj]
   have aEs:s3.dc 36=some (.arr 3 ((f.vs.take i).map Gj++[Gj (f.vs.getD i v0)])):=by rw[g.dc];simp[aj]
   have gt:=g.tmp;simp only[gd]at gt;simp only[aj,aa,reduceIte]at gv1 gv2 gv3;simp only[go_sem,aa,ae,ah,reduceCtorEq,gt,f1,f2,f3,f4,wi,g.base,dq,gv1,gv2,gv3,gb1,gb2,gb3,aEs,b1,b2,b3,fg,e1];exact⟨by simp,_,rfl,.inr ⟨by simp,rfl,by simp[aj,aEs]⟩⟩
  have:i=f.vs.length:=by omega
  subst this;rw[eh]at acc;rcases acc with ⟨a1,rfl⟩|⟨a1,rfl,a3⟩
  ·simp only[go_sem,aa,ae,ah,reduceCtorEq,eb,f1,b1,f2,b2,f3,b3,f4,ag,hlt,wFt,ku];rw[C6,bd a1]
  simp only[go_sem,aa,ae,ah,reduceCtorEq,eb,f1,b1,f2,b2,f3,b3,f4,ag,hlt,wFt,ku,a3,fg];rw[C6,al a1]
 refine main.M8 (Wk.agg (by simp[cFt]) fun i x y hx hy=>?_)
 match i with
 |0=>simp only[cFt,dv,ak]at hx hy;subst hx hy;exact Wk.refl _
 |1=>simp only[cFt,i7,dv,ak]at hx hy;subst hx hy;exact Kj
 |2=>simp only[cFt,i7,dv,ak]at hx hy;subst hx hy;exact Wk.refl _
 |i+3=>simp at hx
theorem aAu(n:Nd)(hv:n.f.vs.length≤2^30)(h1:n.f.ls.length≤2^30)(h2:∀l∈n.f.ls,l.length≤2^30):iz P A.Gv [.agg (zw n)] (.agg (zw n)):=by
 refine ec A.mo A.acv (by simp) ?_;show kq P (Sc A.Da) (mb _ _) _;have ht:=anp A n.f hv h1 h2;simp only[cFt,vn,ku]at ht;simp only[Sc,zw,vn,ku,ng,go_sem,aa,ae,ah];refine ft ht ?_;simp only[go_sem,aa,ae,ah]
theorem ano(t:Tr)(hp:t.ps.length*24≤2^47)(hs:Nu t):iz P A.D9 [.agg (ud t)] (.agg (ud t)):=by
 have main:iz P A.D9 [.agg (ud t)] (.agg [jq t.ps,C6 5 (t.ns.map zw)]):=by
  refine ec A.mo A.a99 (by simp) ?_;show kq P (Ql A.C0 A.Gv) (mb _ _) _;have ht:=are A t.ps hp;obtain⟨hs1,hs2⟩:=hs;simp only[jq]at ht;simp only[Ql,ud,jq,l5,go_sem,aa,ae,ah];refine ft ht ?_;simp only[go_sem,aa,ae,ah]
  refine fp t.ns.length (fun i s'=>s'.base=0∧s'.tmp 1= .ie 1 (s'.av 1) 0∧s'.dc 1=some (.loc [.d (.gz 2 (t.ps.map ti)),.d (.gz 5 (t.ns.map zw))])∧s'.tmp 4= .d (.int ab i)∧
   s'.tmp 2= .ie 2 (s'.av 2) 0∧s'.dc 2=some (.loc [.d .ck,.d .ck])∧s'.tmp 3= .ie 3 (s'.av 3) 0∧
   ∃c,s'.dc 3=some (.loc [.d (.gz 2 (t.ps.map ti)),c])∧a1a s' 27 5 ((t.ns.take i).map zw) c) ?_ ?_
  ·simp only[go_sem,aa];exact⟨_,rfl,a1a.nil⟩
  rintro i s' hi ⟨eb,f1,b1,f4,f2,b2,f3,c,b3,acc⟩;by_cases hlt:(i:Int)<t.ns.length
  ·have dq:i<t.ns.length:=by omega
   have wi:=dh ((i:Int)+1) (by omega) (by omega)
   have hgn:t.ns.getD i n0=t.ns[i]:=by simp[cw,dq]
   have e1:(t.ns.take (i+1)).map zw=(t.ns.take i).map zw++[zw (t.ns.getD i n0)]:=by
    rw[gl,fl];simp[dq,cw]
   obtain⟨q1,q2,q3,q4⟩:=hs2 _ (df dq);rw[←hgn]at q1 q2 q3 q4;have hn:=aAu A (t.ns.getD i n0) q2 q3 q4;have hg:=Kh dq
   generalize t.ns.getD i n0=n at*
   simp only[zw,vn,ku,ng]at hn hg;simp only[go_sem,aa,ae,reduceCtorEq,eb,f1,b1,f3,b3,f4,ag,hlt,hg,bp,ao];refine ft hn ?_;simp only[go_sem,aa,ae,di];refine uh (dm:=(t.ns.take i).map zw) (ys:=[zw n]) (osz:=some 5) ?_ ?_ rfl (by simp[zw,D.one,vn,ku,ng]) ?_ (by simp) ?_
   ·simp only[go_sem,aa];have:=acc.acc;cases c<;>exact this.mono (by simp[aj]) (by simp[aj])
   ·simp only[go_sem,aa,qh,zw,vn,ku,ng]
   ·simp only[ag,cj,du,er];omega
   intro s3 g;have gv1:=g.av 1 (by simp);have gv2:=g.av 2 (by simp);have gv3:=g.av 3 (by simp)
   have gb1:s3.dc 1=s'.dc 1:=by rw[g.dc];simp[aj]
   have gb2:s3.dc 2=s'.dc 2:=by rw[g.dc];simp[aj]
   have gb3:s3.dc 3=s'.dc 3:=by rw[g.dc];simp[aj]
   have aEt:s3.dc 27=some (.arr 5 ((t.ns.take i).map zw++[zw n])):=by rw[g.dc];simp[aj]
   have gt:=g.tmp;simp only[gd]at gt;simp only[aj,aa,reduceIte]at gv1 gv2 gv3;simp only[go_sem,aa,ae,reduceCtorEq,gt,f1,f2,f3,f4,wi,g.base,dq,gv1,gv2,gv3,gb1,gb2,gb3,aEt,b1,b2,b3,fg,e1];exact⟨by simp,_,rfl,.inr ⟨by simp,rfl,by simp[aj,aEt]⟩⟩
  have:i=t.ns.length:=by omega
  subst this;rw[eh]at acc;rcases acc with ⟨a1,rfl⟩|⟨a1,rfl,a3⟩
  ·simp only[go_sem,aa,ae,reduceCtorEq,eb,f1,b1,f2,b2,f3,b3,f4,ag,hlt];rw[C6,bd a1]
  simp only[go_sem,aa,ae,reduceCtorEq,eb,f1,b1,f2,b2,f3,b3,f4,ag,hlt,a3,fg];rw[C6,al a1]
 refine main.M8 (Wk.agg (by simp[ud]) fun i x y hx hy=>?_)
 match i with
 |0=>simp only[ud,dv,ak]at hx hy;subst hx hy;exact Wk.refl _
 |1=>simp only[ud,i7,dv,ak]at hx hy;subst hx hy;exact Kj
 |i+2=>simp at hx
end
def a7j(ls:List (List Sp)):Nat→Int
 |0=>ls.length
 |k+1=>Q0 ab (a7j ls k+(ls.getD k []).length)
def abe(ls:List (List Sp)):Bool:=decide (a7j ls ls.length≤100)
def Fs(s:ByteArray):Bool:=decide (s.size≤100)
def Y4(f:Ft)(ps:List Pm):Bool:=
 ((dt (min ps.length 40)).all fun i=>Fs ((ps.map Pm.n).getD i ⟨#[]⟩))&&(((dt (min f.vs.length 40)).all fun i=>Fs (f.vs.getD i v0).n)&&
  (decide (ps.length≤40)&&(decide (f.vs.length≤40)&&abe f.ls)))
def Q4(t:Tr)(i:Nat):Bool:=
 Y4 (t.ns.getD i n0).f t.ps&&(Fs (t.ns.getD i n0).n&&(decide ((t.ns.getD i n0).ins.length≤10)&&(dt (t.ns.getD i n0).ins.length).all fun k=>Fs ((t.ns.getD i n0).ins.getD k ⟨#[]⟩)))
def a4p(t:Tr):Bool:=decide (t.ns.length≤25)&&(dt t.ns.length).all (Q4 t)
section
variable{P:Program}(A:Pr P)
theorem anu(ls:List (List Sp))(h:ls.length≤2^50):iz P A.Fg [.agg [ku ls]] (.bool (abe ls)):=by
 refine ec A.mo A.a9e (by simp) ?_;show kq P Qp (mb _ _) _;simp only[Qp,ku,go_sem,aa,ag];refine fp ls.length (fun i s'=>s'.tmp 1= .ie 1 (s'.av 1) 0∧s'.dc 1=some (.loc [.d (.gz 1 (ls.map fun l=>[xf l]))])∧s'.tmp 4= .d (.int ab i)∧s'.tmp 3= .d (.int ab (a7j ls i))) ?_ ?_
 ·simp only[go_sem,aa,a7j,a2m]
 rintro i s' hi ⟨f1,b1,f4,f3⟩;by_cases hlt:(i:Int)<ls.length
 ·have dq:i<ls.length:=by omega
  have wi:=dh ((i:Int)+1) (by omega) (by omega)
  have hli:ls.getD i []=ls[i]:=by simp[cw,dq]
  have hc:a7j ls (i+1)=Q0 ab (a7j ls i+ls[i].length):=by rw[a7j,hli]
  simp only[go_sem,aa,reduceCtorEq,f1,b1,f3,f4,ag,hlt,Fu dq,bp,ao,wi,dq,hc];simp
 have:i=ls.length:=by omega
 subst this;simp only[go_sem,aa,reduceCtorEq,f1,b1,f3,f4,ag,hlt,abe]
theorem ant(f:Ft)(ps:List Pm)(h:f.ls.length≤2^50)(h1:f.vs.length≤2^50)(h2:ps.length≤2^50):iz P A.Ff [.agg (cFt f),jq ps] (.bool (Y4 f ps)):=by
 refine ec A.mo A.a9c (by simp) ?_;show kq P (Qn A.Fg) (mb _ _) _;have hs:=anu A f.ls h;simp only[ku]at hs;unfold Y4;simp only[Qn,cFt,vn,ku,jq,go_sem,ae];refine we (fun s'=>s'.tmp 1= .d (.gz 2 (ps.map ti))∧s'.tmp 2= .ie 2 (s'.av 2) 0∧s'.dc 2=some (.loc [.d (.int ab f.k),.d (.gz 3 (f.vs.map Gj)),.d (.gz 1 (f.ls.map fun l=>[xf l]))])∧((dt (min ps.length 40)).all fun i=>Fs ((ps.map Pm.n).getD i ⟨#[]⟩))=true) ?_ ?_
 ·refine fp 40 (fun i s'=>s'.tmp 1= .d (.gz 2 (ps.map ti))∧s'.tmp 2= .ie 2 (s'.av 2) 0∧s'.dc 2=some (.loc [.d (.int ab f.k),.d (.gz 3 (f.vs.map Gj)),.d (.gz 1 (f.ls.map fun l=>[xf l]))])∧s'.tmp 5= .d (.int ab i)∧i≤ps.length∧
   ∀i',i'<i→Fs ((ps.map Pm.n).getD i' ⟨#[]⟩)=true) ?_ ?_
  ·simp only[go_sem,aa];simp
  rintro i s' hi ⟨f1,f2,b2,f5,hil,hI⟩;by_cases hlt:(i:Int)<ps.length
  ·have dq:i<ps.length:=by omega
   have wi:=dh ((i:Int)+1) (by omega) (by omega);have hg:=Zd dq
   have hgn:(ps.map Pm.n).getD i ⟨#[]⟩=ps[i].n:=by simp[cw,dq]
   by_cases h40:(i:Int)<40
   ·simp only[go_sem,aa,ae,ah,reduceCtorEq,f1,f5,ag,hlt,h40,hg,bp,ao];by_cases c1:(100:Int)<ps[i].n.size
    ·have:((dt (min ps.length 40)).all fun i=>Fs ((ps.map Pm.n).getD i ⟨#[]⟩))=false:=all_false (k:=i) (by omega) (by rw[hgn];unfold Fs;simp;omega);simp only[go_sem,aa,c1,this,dz]
    simp only[go_sem,aa,reduceCtorEq,f1,f2,b2,f5,c1,wi];exact⟨by omega,by simp,by omega,qw hI (by rw[hgn];unfold Fs;simp;omega)⟩
   simp only[go_sem,aa,reduceCtorEq,f1,f2,b2,f5,ag,hlt,h40];exact all_true fun i' D0=>hI i' (by omega)
  simp only[go_sem,aa,reduceCtorEq,f1,f2,b2,f5,ag,hlt];exact all_true fun i' D0=>hI i' (by omega)
 rintro s' ⟨f1,f2,b2,ha⟩;rw[ha,u9];simp only[go_sem];refine we (fun s'=>s'.tmp 1= .d (.gz 2 (ps.map ti))∧s'.tmp 2= .ie 2 (s'.av 2) 0∧s'.dc 2=some (.loc [.d (.int ab f.k),.d (.gz 3 (f.vs.map Gj)),.d (.gz 1 (f.ls.map fun l=>[xf l]))])∧((dt (min f.vs.length 40)).all fun i=>Fs (f.vs.getD i v0).n)=true) ?_ ?_
 ·refine fp 40 (fun i s'=>s'.tmp 1= .d (.gz 2 (ps.map ti))∧s'.tmp 2= .ie 2 (s'.av 2) 0∧s'.dc 2=some (.loc [.d (.int ab f.k),.d (.gz 3 (f.vs.map Gj)),.d (.gz 1 (f.ls.map fun l=>[xf l]))])∧s'.tmp 6= .d (.int ab i)∧i≤f.vs.length∧
   ∀i',i'<i→Fs (f.vs.getD i' v0).n=true) ?_ ?_
  ·simp only[go_sem,aa,f1,f2,b2];simp
  clear f1 f2 b2;rintro i s' hi ⟨f1,f2,b2,f6,hil,hI⟩;by_cases hlt:(i:Int)<f.vs.length
  ·have dq:i<f.vs.length:=by omega
   have wi:=dh ((i:Int)+1) (by omega) (by omega);have hg:=Zc dq;by_cases h40:(i:Int)<40
   ·simp only[go_sem,aa,ae,ah,reduceCtorEq,f2,b2,f6,ag,hlt,h40,hg,bp,ao];by_cases c1:(100:Int)<(f.vs.getD i v0).n.size
    ·have:((dt (min f.vs.length 40)).all fun i=>Fs (f.vs.getD i v0).n)=false:=all_false (k:=i) (by omega) (by unfold Fs;simp only[decide_eq_false_iff_not];omega);simp only[go_sem,aa,c1,this,dz]
    simp only[go_sem,aa,reduceCtorEq,f1,f2,b2,f6,c1,wi];exact⟨by omega,by simp,by omega,qw hI (by unfold Fs;simp only[decide_eq_true_eq];omega)⟩
   simp only[go_sem,aa,ae,ah,reduceCtorEq,f1,f2,b2,f6,ag,hlt,h40];exact all_true fun i' D0=>hI i' (by omega)
  simp only[go_sem,aa,ae,ah,reduceCtorEq,f1,f2,b2,f6,ag,hlt];exact all_true fun i' D0=>hI i' (by omega)
 clear f1 f2 b2;rintro s' ⟨f1,f2,b2,hb⟩;rw[hb,u9];by_cases c1:(ps.length:Int)≤40
 ·have c1':ps.length≤40:=by omega
  by_cases c2:(f.vs.length:Int)≤40
  ·have c2':f.vs.length≤40:=by omega
   simp only[go_sem,aa,ae,ah,reduceCtorEq,f1,f2,b2,ag,c1,c1',c2,c2'];refine ft hs ?_;simp only[go_sem,aa]
  have c2':¬f.vs.length≤40:=by omega
  simp only[go_sem,aa,ae,ah,reduceCtorEq,f1,f2,b2,ag,c1,c1',c2,c2',dz]
 have c1':¬ps.length≤40:=by omega
 simp only[go_sem,aa,reduceCtorEq,f1,ag,c1,c1',dz]
def aFi(t:Tr):Prop:=t.ps.length≤2^50∧∀n∈t.ns,n.f.ls.length≤2^50∧n.f.vs.length≤2^50
theorem ans(t:Tr)(hb:aFi t):iz P A.Fe [.agg (ud t)] (.bool (a4p t)):=by
 refine ec A.mo A.a9a (by simp) ?_;show kq P (Lt A.Ff) (mb _ _) _;unfold a4p;by_cases c0:(25:Int)<t.ns.length
 ·have c0':¬t.ns.length≤25:=by omega
  simp only[Lt,ud,jq,l5,go_sem,aa,ae,reduceCtorEq,ag,c0,c0',dz]
 have c0':t.ns.length≤25:=by omega
 simp only[Lt,ud,jq,l5,go_sem,aa,ae,reduceCtorEq,ag,c0,c0'];refine fp t.ns.length (fun i s'=>s'.base=0∧s'.tmp 1= .ie 1 (s'.av 1) 0∧s'.dc 1=some (.loc [.d (.gz 2 (t.ps.map ti)),.d (.gz 5 (t.ns.map zw))])∧s'.tmp 3= .d (.int ab i)∧∀i',i'<i→Q4 t i'=true) ?_ ?_
 ·simp only[go_sem,aa];simp
 rintro i s' hi ⟨eb,f1,b1,f3,hI⟩;by_cases hlt:(i:Int)<t.ns.length
 ·have dq:i<t.ns.length:=by omega
  have wi:=dh ((i:Int)+1) (by omega) (by omega);have hg:=Kh dq
  have hgn:t.ns.getD i n0=t.ns[i]:=by simp[cw,dq]
  obtain⟨q1,q2⟩:=hb.2 _ (df dq);rw[←hgn]at q1 q2;have Bs:Q4 t i=(Y4 (t.ns.getD i n0).f t.ps&&(Fs (t.ns.getD i n0).n&&(decide ((t.ns.getD i n0).ins.length≤10)&&(dt (t.ns.getD i n0).ins.length).all fun k=>Fs ((t.ns.getD i n0).ins.getD k ⟨#[]⟩)))):=rfl;have no:Q4 t i=false→(dt t.ns.length).all (Q4 t)=false:=fun h=>all_false dq h;have hsh:=ant A (t.ns.getD i n0).f t.ps q1 q2 hb.1
  generalize t.ns.getD i n0=n at*
  simp only[cFt,vn,ku,jq]at hsh;simp only[vn,ku,ng]at hg;simp only[go_sem,aa,ae,ah,reduceCtorEq,eb,f1,b1,f3,ag,hlt,hg,bp,ao];refine j5 hsh ?_;cases c1:Y4 n.f t.ps
  ·have:Q4 t i=false:=by rw[Bs,c1];rfl
   simp only[go_sem,aa,no this]
  by_cases c2:(100:Int)<n.n.size
  ·have:Q4 t i=false:=by rw[Bs,show Fs n.n=false by unfold Fs;simp;omega];simp
   simp only[go_sem,aa,ae,ah,reduceCtorEq,c2,no this]
  by_cases c3:(10:Int)<n.ins.length
  ·have:Q4 t i=false:=by rw[Bs,decide_eq_false (show¬n.ins.length≤10 by omega)];simp
   simp only[go_sem,aa,ae,ah,reduceCtorEq,c2,c3,ag,no this]
  have aE4:Q4 t i=(dt n.ins.length).all fun k=>Fs (n.ins.getD k ⟨#[]⟩):=by
   rw[Bs,c1,show Fs n.n=true by unfold Fs;simp;omega,decide_eq_true (show n.ins.length≤10 by omega)];rfl
  simp only[go_sem,aa,ae,ah,reduceCtorEq,c2,c3,ag];refine fp n.ins.length (fun k s'=>s'.base=0∧s'.tmp 1= .ie 1 (s'.av 1) 0∧s'.dc 1=some (.loc [.d (.gz 2 (t.ps.map ti)),.d (.gz 5 (t.ns.map zw))])∧s'.tmp 3= .d (.int ab i)∧s'.tmp 4= .ie 4 (s'.av 4) 0∧s'.dc 4=some (.loc [.d (.str n.n),.d (.int ab n.f.k),.d (.gz 3 (n.f.vs.map Gj)),.d (.gz 1 (n.f.ls.map fun l=>[xf l])),.d (.gz 1 (n.ins.map ss))])∧s'.tmp 5= .d (.int ab k)∧∀k',k'<k→Fs (n.ins.getD k' ⟨#[]⟩)=true) ?_ ?_
  ·simp only[go_sem,aa,f1,b1,f3];simp
  clear eb f1 b1 f3;rintro k s2 hk ⟨eb,f1,b1,f3,f4,b4,f5,hK⟩;by_cases Hf:(k:Int)<n.ins.length
  ·have rb:k<n.ins.length:=by omega
   have wk:=dh ((k:Int)+1) (by omega) (by omega);simp only[go_sem,aa,ae,reduceCtorEq,eb,f4,b4,f5,ag,Hf,F3 rb,bp,ao];by_cases c4:(100:Int)<(n.ins.getD k ⟨#[]⟩).size
   ·have:Q4 t i=false:=by rw[aE4];exact all_false rb (by unfold Fs;simp only[decide_eq_false_iff_not];omega)
    simp only[go_sem,aa,c4,no this]
   simp only[go_sem,aa,reduceCtorEq,f1,b1,f3,f4,b4,f5,c4,wk,rb];exact⟨by simp,qw hK (by unfold Fs;simp only[decide_eq_true_eq];omega)⟩
  have:k=n.ins.length:=by omega
  subst this;simp only[go_sem,aa,ae,reduceCtorEq,eb,f1,b1,f3,f4,b4,f5,ag,Hf,wi,dq];exact⟨by simp,qw hI (by rw[aE4];exact all_true hK)⟩
 have:i=t.ns.length:=by omega
 subst this;rw[all_true hI];simp only[go_sem,aa,ae,reduceCtorEq,eb,f1,b1,f3,ag,hlt]
end
theorem iz.args{P:Program}{f:Nat}{xs ys:List D}{r:D}(h:iz P f xs r)(hl:ys.length=xs.length)(hw:∀(i:Nat) (x y:D),xs[i]? =some x→ys[i]? =some y→Wk y x):iz P f ys r:=
 ⟨h.1,fun G w vs hG hl' hr=>h.2 G w vs hG (by omega) fun i x v hx hv=>by
  have hi:i<ys.length:=by have:=(aw.1 hx).1;omega
  exact hw i x _ hx (ax hi) G v (hr i _ v (ax hi) hv)⟩
def alf(a b:List ByteArray):Bool:=decide (a.length=b.length)&&(dt a.length).all fun i=>kz (a.getD i ⟨#[]⟩) (b.getD i ⟨#[]⟩)
theorem ai5(a:List ByteArray):alf a a=true:=by
 unfold alf;rw[decide_eq_true rfl,u9];exact all_true fun i _=>Ei _
section
variable{P:Program}(A:Pr P)
theorem aAr(a b:List ByteArray)(h:a.length≤2^50):iz P A.Gw [ng a,ng b] (.bool (alf a b)):=by
 refine ec A.mo A.acw (by simp) ?_;show kq P O0 (mb _ _) _;unfold alf;by_cases c0:a.length=b.length
 ·have c0':((a.length:Int) !=b.length)=false:=by simp[c0]
  simp only[O0,ng,go_sem,aa,reduceCtorEq,ag,c0'];refine fp a.length (fun i s'=>s'.tmp 0= .d (.gz 1 (a.map ss))∧s'.tmp 1= .d (.gz 1 (b.map ss))∧s'.tmp 5= .d (.int ab i)∧∀i',i'<i→kz (a.getD i' ⟨#[]⟩) (b.getD i' ⟨#[]⟩)=true) ?_ ?_
  ·simp only[go_sem,aa,reduceCtorEq]
   try simp
  rintro i s' hi ⟨f0,f1,f5,hI⟩;by_cases hlt:(i:Int)<a.length
  ·have dq:i<a.length:=by omega
   have aEb:i<b.length:=by omega
   have wi:=dh ((i:Int)+1) (by omega) (by omega);cases c1:kz (a.getD i ⟨#[]⟩) (b.getD i ⟨#[]⟩)
   ·have c1':=c1;unfold kz at c1';simp only[go_sem,aa,reduceCtorEq,f0,f1,f5,ag,hlt,F3 dq,F3 aEb,bp,ao,c1'];rw[all_false dq c1,qq]
   have c1':=c1;unfold kz at c1';simp only[go_sem,aa,reduceCtorEq,f0,f1,f5,ag,hlt,F3 dq,F3 aEb,bp,ao,c1',wi,dq];exact⟨by simp,qw hI c1⟩
  have:i=a.length:=by omega
  subst this;simp only[go_sem,aa,reduceCtorEq,f0,f5,ag,hlt];rw[all_true hI,decide_eq_true c0,aK3]
 have c0':((a.length:Int) !=b.length)=true:=by simp;omega
 simp only[O0,ng,go_sem,aa,reduceCtorEq,ag,c0'];rw[decide_eq_false c0,dz]
end
def zm(p:Nat→Bool)(n:Nat):Int:=match(dt n).find? p with|some i=>i|none=> -1
theorem Py{p:Nat→Bool}{n:Nat}(h:∀i,i<n→p i=false):zm p n= -1:=by
 have:(dt n).find? p=none:=Xs.2 fun i hi=>by simp[h i (ez.1 hi)]
 unfold zm;rw[this]
theorem ak2{p:Nat→Bool}:∀{n k:Nat},k<n→p k=true→(∀i,i<k→p i=false)→(dt n).find? p=some k:=by
 intro n
 induction n with
 |zero=>intro k hk;omega
 |succ n ih=>
  intro k hk hp hb;rw[List.range_succ,List.find?_append];by_cases e:k=n
  ·subst e;rw[Xs.2 fun i hi=>by simp[hb i (ez.1 hi)]];simp[hp]
  rw[ih (by omega) hp hb];rfl
theorem Px{p:Nat→Bool}{n k:Nat}(hk:k<n)(hp:p k=true)(hb:∀i,i<k→p i=false):zm p n=k:=by
 unfold zm;rw[ak2 hk hp hb]
theorem Rr{p:Nat→Bool}{n:Nat}:decide (zm p n≥0)=(dt n).any p:=by
 unfold zm
 cases h:(dt n).find? p with
 |none=>
  rw[Xs]at h
  have:(dt n).any p=false:=by
   rw[avh]
   exact fun i hi=>by simpa using h i hi
  rw[this];rfl
 |some k=>
  have h1:=List.find?_some h;have h2:=V1 h;have:(dt n).any p=true:=Av.2 ⟨k,h2,h1⟩;rw[this]
  try simp
theorem J5(p:Nat→Bool)(n:Nat):(zm p n= -1∧∀i,i<n→p i=false)∨∃k,k<n∧p k=true∧zm p n=k∧∀i,i<k→p i=false:=by
 cases h:(dt n).find? p with
 |none=>
  rw[Xs]at h
  exact .inl (by
   have h':∀i,i<n→p i=false:=fun i hi=>by simpa using h i (ez.2 hi)
   exact⟨Py h',h'⟩)
 |some k=>
  obtain⟨h1,as,bs,h2,h3⟩:=Zn.1 h;have hk:=ez.1 (V1 h);refine .inr ⟨k,hk,h1,by unfold zm;rw[h],fun i hi=>?_⟩
  have hlen:as.length=k:=by
   have h4:(dt n)[as.length]? =some k:=by rw[h2];simp
   have hlt:as.length<n:=by
    have:=(aw.1 h4).1;simpa using this
   rw[Mt hlt]at h4;exact avj h4
  have:as[i]? =some i:=by
   have h5:(dt n)[i]? =some i:=Mt (by omega);rw[h2,mj (by omega)]at h5;exact h5
  simpa using h3 i (jw this)
def aDv(n:Nat)(agg:Bool):dn:=
 (.seq (
 .region [⟨some 4,.ji (.c (.int ab 0)),none,[]⟩] false []) (
 (.seq (
  (.seq (
  .region [⟨some 6,.ji (.t 0),none,[]⟩,
   ⟨some 7,.len .gz (.t 6),none,[]⟩,
   ⟨some 8,.ji (.c (.int ab 0)),none,[]⟩] false []) (
  (.block 0 (
   (.loop (
   (.seq (
    .region [⟨some 9,.bin .lss (.t 8) (.t 7),none,[]⟩] false []) (
    (.seq (
    (.cond (.t 9) (
     .skip) (
     .exit 0))) (
    (.seq (
     (.block 1 (
     (.seq (
      .region [⟨some 10,.ji (.t 8),none,[]⟩,
       ⟨some 5,.ji (.t 10),none,[]⟩] false []) (
      (.seq (
      .region [⟨some 11,.ji (.t 1),none,[]⟩,
       ⟨some 12,.ji (.t 0),none,[]⟩,
       ⟨some 13,.ji (.t 5),none,[]⟩,
       ⟨some 14,.xm n (.t 12) (.t 13),none,[]⟩,
       ⟨some 15,.load n agg (.t 14),none,[]⟩,
       ⟨some 16,.xy (.t 11) [(.t 15)],none,[]⟩] false []) (
      (.cond (.t 16) (
       (.seq (
       .region [⟨some 17,.ji (.t 5),none,[]⟩,
        ⟨some 4,.ji (.t 17),none,[]⟩] false []) (
       .ret))) (
       .skip))))))))) (
     .region [⟨some 18,.bin .add (.t 8) (.c (.int ab 1)),none,[]⟩,
      ⟨some 8,.ji (.t 18),none,[]⟩] false []))))))))))))) (
  (.seq (
  .region [⟨some 4,.ji (.c (.int ab (-1))),none,[]⟩] false []) (
  .ret))))))
def aF6(f:Nat):dn:=
 (.seq (
 .region [⟨some 4,.ji (.c (.bool false)),none,[]⟩] false []) (
 (.seq (
  .region [⟨some 5,.ji (.t 0),none,[]⟩,
   ⟨some 6,.ji (.t 1),none,[]⟩,
   ⟨some 7,.call f [(.t 5),(.t 6)],none,[]⟩,
   ⟨some 8,.bin .geq (.t 7) (.c (.int ab 0)),none,[]⟩,
   ⟨some 4,.ji (.t 8),none,[]⟩] false []) (
  .ret))))
theorem aso{n:Nat}{agg:Bool}{e:List D}(h:e.length=n):mkd agg (aLs n e)=mkd agg e:=by rw[←h,eh]
section
variable{P:Program}(A:Pr P)
theorem a57{n:Nat}{agg:Bool}{dm:List (List D)}{xs:Nat→D}{g:Nat}{j2:List D}{p:Nat→Bool}(hx:∀(i:Nat) (e:List D),dm[i]? =some e→e.length=n∧mkd agg e= .d (xs i))
  (hp:∀i,i<dm.length→iz P g (xs i::j2) (.bool (p i)))(hl:dm.length≤2^50):kq P (aDv n agg) (mb [.tmp 4] (.int ab (zm p dm.length))) (start [.gz n dm,.oq g j2]):=by
 simp only[aDv,go_sem,aa,cq,reduceCtorEq];refine fp dm.length (fun i s'=>s'.tmp 0= .d (.gz n dm)∧s'.tmp 1= .d (.oq g j2)∧s'.tmp 7= .d (.int ab dm.length)∧s'.tmp 8= .d (.int ab i)∧∀i',i'<i→p i'=false) ?_ ?_
 ·simp only[go_sem,aa,reduceCtorEq]
  try simp
 rintro i s' hi ⟨f0,f1,f7,f8,hI⟩;by_cases hlt:(i:Int)<dm.length
 ·have dq:i<dm.length:=by omega
  have wi:=dh ((i:Int)+1) (by omega) (by omega);obtain⟨e,he⟩:∃e,dm[i]? =some e:=⟨_,ax dq⟩;obtain⟨h1,h2⟩:=hx i e he;have h3:=h2;rw[←aso h1]at h3;simp only[mkd]at h3
  have hle:n≤e.length:=by omega
  simp only[go_sem,aa,cq,reduceCtorEq,f0,f1,f7,f8,hlt,he,bp,ao,hle,h3];refine a7m (hp i dq) ?_;cases c1:p i
  ·simp only[go_sem,aa,cq,reduceCtorEq,f0,f1,f7,f8,wi,dq];exact⟨by simp,qw hI c1⟩
  simp only[go_sem,aa,cq];rw[Px dq c1 hI]
 have:i=dm.length:=by omega
 subst this;simp only[go_sem,aa,cq,reduceCtorEq,f7,f8,hlt];rw[Py hI]
theorem ac1{f:Nat}{x y:D}{k:Int}(h:iz P f [x,y] (.int ab k)):kq P (aF6 f) (mb [.tmp 4] (.bool (decide (k≥0)))) (start [x,y]):=by
 simp only[aF6,go_sem,aa,reduceCtorEq];refine j5 h ?_;simp only[go_sem,aa,reduceCtorEq]
theorem arf{l:List Vl}{g:Nat}{j2:List D}{p:Nat→Bool}(hp:∀i (h:i<l.length),iz P g (.agg (Gj l[i])::j2) (.bool (p i)))(hl:l.length≤2^50):
  iz P A.qd [vn l,.oq g j2] (.int ab (zm p l.length)):=by
 have:=a57 (P:=P) (n:=3) (agg:=true) (dm:=l.map Gj) (xs:=fun i=> .agg (Gj (l.getD i v0))) (g:=g) (j2:=j2) (p:=p) (fun i e he=>by
  simp only[cy,aq]at he;obtain⟨v,hv,rfl⟩:=he
  simp[Gj,mkd,cw,hv]) (fun i hi=>by
   have D0:i<l.length:=by simpa using hi
   have e:l.getD i v0=l[i]:=by simp[cw,D0]
   rw[e];exact hp i D0) (by simpa using hl)
 rw[ag]at this;exact ec A.mo A.K4 (by simp) this
theorem arn{l:List Vl}{g:Nat}{j2:List D}{p:Nat→Bool}(hp:∀i (h:i<l.length),iz P g (.agg (Gj l[i])::j2) (.bool (p i)))(hl:l.length≤2^50):
  iz P A.mq [vn l,.oq g j2] (.bool ((dt l.length).any p)):=by
 rw[←Rr];exact ec A.mo A.Hu (by simp) (ac1 (arf A hp hl))
theorem aeu{l:List Nd}{g:Nat}{j2:List D}{p:Nat→Bool}(hp:∀i (h:i<l.length),iz P g (.agg (zw l[i])::j2) (.bool (p i)))(hl:l.length≤2^50):
  iz P A.ja [l5 l,.oq g j2] (.int ab (zm p l.length)):=by
 have:=a57 (P:=P) (n:=5) (agg:=true) (dm:=l.map zw) (xs:=fun i=> .agg (zw (l.getD i n0))) (g:=g) (j2:=j2) (p:=p) (fun i e he=>by
  simp only[cy,aq]at he;obtain⟨v,hv,rfl⟩:=he
  simp[zw,mkd,cw,hv]) (fun i hi=>by
   have D0:i<l.length:=by simpa using hi
   have e:l.getD i n0=l[i]:=by simp[cw,D0]
   rw[e];exact hp i D0) (by simpa using hl)
 rw[ag]at this;exact ec A.mo A.Kp (by simp) this
theorem arh{l:List Pm}{g:Nat}{j2:List D}{p:Nat→Bool}(hp:∀i (h:i<l.length),iz P g (.agg (ti l[i])::j2) (.bool (p i)))(hl:l.length≤2^50):
  iz P A.ny [jq l,.oq g j2] (.int ab (zm p l.length)):=by
 have:=a57 (P:=P) (n:=2) (agg:=true) (dm:=l.map ti) (xs:=fun i=> .agg (ti (l.getD i ⟨⟨#[]⟩,0⟩))) (g:=g) (j2:=j2) (p:=p) (fun i e he=>by
  simp only[cy,aq]at he;obtain⟨v,hv,rfl⟩:=he
  simp[ti,mkd,cw,hv]) (fun i hi=>by
   have D0:i<l.length:=by simpa using hi
   have e:l.getD i ⟨⟨#[]⟩,0⟩=l[i]:=by simp[cw,D0]
   rw[e];exact hp i D0) (by simpa using hl)
 rw[ag]at this;exact ec A.mo A.K5 (by simp) this
theorem aet{l:List Sp}{g:Nat}{j2:List D}{p:Nat→Bool}(hp:∀i (h:i<l.length),iz P g (.agg (C5 l[i])::j2) (.bool (p i)))(hl:l.length≤2^50):
  iz P A.jz [xf l,.oq g j2] (.int ab (zm p l.length)):=by
 have:=a57 (P:=P) (n:=2) (agg:=true) (dm:=l.map C5) (xs:=fun i=> .agg (C5 (l.getD i (0,0)))) (g:=g) (j2:=j2) (p:=p) (fun i e he=>by
  simp only[cy,aq]at he;obtain⟨v,hv,rfl⟩:=he
  simp[C5,mkd,cw,hv]) (fun i hi=>by
   have D0:i<l.length:=by simpa using hi
   have e:l.getD i (0,0)=l[i]:=by simp[cw,D0]
   rw[e];exact hp i D0) (by simpa using hl)
 rw[ag]at this;exact ec A.mo A.Kq (by simp) this
theorem aro{l:List Sp}{g:Nat}{j2:List D}{p:Nat→Bool}(hp:∀i (h:i<l.length),iz P g (.agg (C5 l[i])::j2) (.bool (p i)))(hl:l.length≤2^50):
  iz P A.my [xf l,.oq g j2] (.bool ((dt l.length).any p)):=by
 rw[←Rr];exact ec A.mo A.Iv (by simp) (ac1 (aet A hp hl))
theorem anz{l:List ByteArray}{g:Nat}{j2:List D}{p:Nat→Bool}(hp:∀i (h:i<l.length),iz P g (.str l[i]::j2) (.bool (p i)))(hl:l.length≤2^50):
  iz P A.uv [ng l,.oq g j2] (.int ab (zm p l.length)):=by
 have:=a57 (P:=P) (n:=1) (agg:=false) (dm:=l.map ss) (xs:=fun i=> .str (l.getD i ⟨#[]⟩)) (g:=g) (j2:=j2) (p:=p) (fun i e he=>by
  simp only[cy,aq]at he;obtain⟨v,hv,rfl⟩:=he
  simp[ss,mkd,cw,hv]) (fun i hi=>by
   have D0:i<l.length:=by simpa using hi
   have e:l.getD i ⟨#[]⟩=l[i]:=by simp[cw,D0]
   rw[e];exact hp i D0) (by simpa using hl)
 rw[ag]at this;exact ec A.mo A.Pg (by simp) this
theorem a9y{l:List ByteArray}{g:Nat}{j2:List D}{p:Nat→Bool}(hp:∀i (h:i<l.length),iz P g (.str l[i]::j2) (.bool (p i)))(hl:l.length≤2^50):
  iz P A.kg [ng l,.oq g j2] (.bool ((dt l.length).any p)):=by
 rw[←Rr];exact ec A.mo A.Nk (by simp) (ac1 (anz A hp hl))
theorem aes(l:List ByteArray)(x:ByteArray)(hl:l.length≤2^50):iz P A.ze [ng l,.str x] (.int ab (zm (fun i=>kz x (l.getD i ⟨#[]⟩)) l.length)):=by
 refine ec A.mo A.Ti (by simp) ?_;show kq P Fj (mb _ _) _;simp only[Fj,ng,go_sem,aa,cq,reduceCtorEq];refine fp l.length (fun i s'=>s'.tmp 0= .d (.gz 1 (l.map ss))∧s'.tmp 1= .d (.str x)∧s'.tmp 7= .d (.int ab l.length)∧s'.tmp 8= .d (.int ab i)∧∀i',i'<i→kz x (l.getD i' ⟨#[]⟩)=false) ?_ ?_
 ·simp only[go_sem,aa,reduceCtorEq,ag]
  try simp
 rintro i s' hi ⟨f0,f1,f7,f8,hI⟩;by_cases hlt:(i:Int)<l.length
 ·have dq:i<l.length:=by omega
  have wi:=dh ((i:Int)+1) (by omega) (by omega);cases c1:kz x (l.getD i ⟨#[]⟩)
  ·have c1':=c1;unfold kz at c1';simp only[go_sem,aa,cq,reduceCtorEq,f0,f1,f7,f8,hlt,F3 dq,bp,ao,c1',wi,dq];exact⟨by simp,qw hI c1⟩
  have c1':=c1;unfold kz at c1';simp only[go_sem,aa,cq,reduceCtorEq,f0,f1,f7,f8,hlt,F3 dq,bp,ao,c1'];rw[Px (p:=fun i=>kz x (l.getD i ⟨#[]⟩)) dq c1 hI]
 have:i=l.length:=by omega
 subst this;simp only[go_sem,aa,cq,reduceCtorEq,f7,f8,hlt];rw[Py (p:=fun i=>kz x (l.getD i ⟨#[]⟩)) hI]
theorem aju(l:List ByteArray)(x:ByteArray):(dt l.length).any (fun i=>kz x (l.getD i ⟨#[]⟩))=hasB l x:=by
 unfold hasB;rw[Td,Av,Av];constructor
 ·rintro⟨i,hi,h⟩;have hi:=ez.1 hi;refine⟨l[i],df hi,?_⟩;simp only[cw,ax hi,jc]at h;unfold kz at h⊢;rw[beq_iff_eq]at h⊢;exact h.symm
 rintro⟨y,hy,h⟩;obtain⟨i,hi,rfl⟩:=jt hy;refine⟨i,ez.2 hi,?_⟩;simp only[cw,ax hi,jc];unfold kz at h⊢;rw[beq_iff_eq]at h⊢;exact h.symm
theorem Tv(l:List ByteArray)(x:ByteArray)(hl:l.length≤2^50):iz P A.ma [ng l,.str x] (.bool (hasB l x)):=by
 rw[←aju,←Rr];exact ec A.mo A.Qv (by simp) (ac1 (aes A l x hl))
end
theorem toList_eq(s:ByteArray):s.toList=s.data.toList:=ByteArray.toList_eq s
theorem amh(a b:ByteArray):(a==b)=kz a b:=by
 unfold kz;rw[toList_eq,toList_eq];have:(a==b)=(a.data==b.data):=rfl;rw[this,Td,beq_iff_eq,beq_iff_eq]
 exact⟨fun h=>by rw[h],fun h=>by
  have:=congrArg List.toArray h
  simpa using this⟩
theorem a3q{a b:ByteArray}(h:kz a b=true):a=b:=by
 unfold kz at h;rw[beq_iff_eq,toList_eq,toList_eq]at h;have h':=congrArg List.toArray h;simp only[Array.toArray_toList]at h';cases a;cases b
 simp_all
def a5v{P:Program}(A:Pr P):List D:=[.str ⟨#[98,111,120]⟩,.int ab 0,.int ab 6,.oq A.Cx [],
 .str ⟨#[112,114,105,115,109]⟩,.int ab 0,.int ab 2,.oq A.Cw [],.str ⟨#[115,108,97,110,116]⟩,.int ab 0,.int ab 4,.oq A.Cv [],
 .str ⟨#[112,121,114,97,109,105,100]⟩,.int ab 0,.int ab 4,.oq A.Cu [],.str ⟨#[117,110,105,111,110]⟩,.int ab 2,.int ab 0,.oq A.Ct [],
 .str ⟨#[105,110,116,101,114,115,101,99,116]⟩,.int ab 2,.int ab 0,.oq A.Cs [],.str ⟨#[115,117,98,116,114,97,99,116]⟩,.int ab 2,.int ab 0,.oq A.Cr [],
 .str ⟨#[99,108,105,112]⟩,.int ab 1,.int ab 4,.oq A.Gg [],.str ⟨#[115,104,105,102,116]⟩,.int ab 1,.int ab 3,.oq A.Cq [],
 .str ⟨#[115,121,109,109,101,116,114,121]⟩,.int ab 1,.int ab 1,.oq A.Cp [],.str ⟨#[115,99,97,108,101]⟩,.int ab 1,.int ab 2,.oq A.C3 [],
 .str ⟨#[115,117,109]⟩,.int ab 1,.int ab 6,.oq A.C2 [],.str ⟨#[99,111,114,101]⟩,.int ab 1,.int ab 6,.oq A.C1 [],
 .str ⟨#[114,101,112,101,97,116]⟩,.int ab 1,.int ab 4,.oq A.Ea []]
theorem aad{P:Program}(A:Pr P){k:Nat}(h:k<14):∃n c,((a5v A).drop (k*4)).take 4=[.str n,.int ab (kIn k),.int ab (Is k),c]:=by
 match k,h with
 |0,_|1,_|2,_|3,_|4,_|5,_|6,_|7,_|8,_|9,_|10,_|11,_|12,_|13,_=>exact⟨_,_,rfl⟩
 |n+14,h=>omega
theorem a0a{P:Program}(A:Pr P):(a5v A).length=56:=rfl
def Lp{P:Program}(A:Pr P)(pr:List (List Sp)→Bool):Prop:=
 ∀ls:List (List Sp),ls.length≤2^30→(∀l∈ls,l.length≤2^30)→iz P A.Cf [.agg [ku ls]] (.int ab (if pr ls then 0 else 170))
section
variable{P:Program}(A:Pr P)
theorem Wb(l:List Pm):iz P A.o8 [jq l] (.int ab (if xt l then 0 else 1)):=by
 refine ec A.mo A.To (by simp) ?_;show kq P (C8 A.jx A.rj) (mb _ _) _;unfold xt;by_cases h1:(20:Int)<l.length
 ·have h1':¬l.length≤20:=by omega
  simp only[C8,jq,go_sem,aa,reduceCtorEq,ag,h1,h1',dz]
 have h1':l.length≤20:=by omega
 simp only[C8,jq,go_sem,aa,reduceCtorEq,ag,h1,h1'];refine fp l.length (fun k s'=>s'.base=0∧s'.tmp 0= .d (.gz 2 (l.map ti))∧s'.tmp 8= .d (.gz 2 (l.map ti))∧s'.tmp 9= .d (.int ab l.length)∧s'.tmp 10= .d (.int ab k)∧∀i,i<k→a8n l i=true) ?_ ?_
 ·simp only[go_sem,aa,reduceCtorEq]
  try simp
 rintro k s' hk ⟨eb,e0,e8,e9,e10,ha⟩;by_cases hlt:(k:Int)<l.length
 ·have dq:k<l.length:=by omega
  have hg:(l.map ti)[k]? =some [.str l[k].n,.int ab l[k].v]:=by simp[dq,ti]
  have wk:=dh ((k:Int)+1) (by omega) (by omega)
  have hp:a8n l k=(yc l[k].n&&(Qu l[k].v&&w9 (l.map Pm.n) k)):=by unfold a8n;simp[dq]
  simp only[go_sem,aa,ae,ah,reduceCtorEq,eb,e8,e9,e10,hlt,bp,hg,ao];refine ft (Y8 A _) ?_;cases q1:yc l[k].n
  ·simp only[go_sem,aa];rw[all_false dq (by rw[hp,q1];rfl)];rfl
  simp only[go_sem,aa,ae];refine ft (a4q A _) ?_;cases q2:Qu l[k].v
  ·simp only[go_sem,aa];rw[all_false dq (by rw[hp,q1,q2];rfl)];rfl
  by_cases q3:(0:Int)<k
  ·have hg':(l.map ti)[k-1]? =some [.str l[k-1].n,.int ab l[k-1].v]:=by
    have:k-1<l.length:=by omega
    simp[this,ti]
   have w1:=dh ((k:Int)-1) (by omega) (by omega)
   have z:(0:Int)≤(k:Int)-1:=by omega
   have hr:w9 (l.map Pm.n) k=strLt l[k-1].n l[k].n:=by
    unfold w9
    have h0:k≠0:=by omega
    have:k-1<l.length:=by omega
    simp[h0,this,dq]
   cases q4:strLt l[k-1].n l[k].n
   ·have q4':=q4;unfold strLt at q4';simp only[go_sem,aa,ae,ah,reduceCtorEq,e0,q3,w1,J6 q3,hg',z,q4'];rw[all_false dq (by rw[hp,q1,q2,hr,q4];rfl)];rfl
   have q4':=q4;unfold strLt at q4';simp only[go_sem,aa,ae,ah,reduceCtorEq,e0,e8,e9,e10,q3,w1,J6 q3,hg',z,q4',wk];exact⟨dq,by simp,qw ha (by rw[hp,q1,q2,hr,q4];rfl)⟩
  simp only[go_sem,aa,reduceCtorEq,e0,e8,e9,e10,q3,wk];exact⟨dq,by simp,qw ha (by rw[hp,q1,q2];unfold w9;simp;omega)⟩
 simp only[go_sem,aa,reduceCtorEq,eb,e9,e10,hlt];rw[all_true fun i hi=>ha i (by omega)];rfl
theorem a8h(v:Vl):iz P A.w8 [.agg (Gj v)] (.bool (L7 v)):=by
 refine ec A.mo A.Tn (by simp) ?_;show kq P (Fo A.rj A.jx) (mb _ _) _;unfold L7;simp only[Fo,Gj,go_sem,aa,ae,ah];refine ft (a4q A _) ?_;cases h1:Qu v.t
 ·simp only[go_sem,aa,dz]
 simp only[go_sem,aa,ae];refine ft (a4q A _) ?_;cases h2:Qu v.a
 ·simp only[go_sem,aa,dz]
 simp only[go_sem,aa,ae,ah];refine ft (Y8 A _) ?_;cases h3:yc v.n
 ·cases h4:isE v.n
  ·simp only[isE]at h4;simp only[go_sem,aa,ae,ah,h4,dz,W6]
  simp only[isE]at h4;simp only[go_sem,aa,ae,ah,reduceCtorEq,h4,Q2]
 simp only[go_sem,aa,M6]
theorem ao3(v:Vl):iz P A.yh [.agg (Gj v)] (.bool !(L7 v)):=by
 refine ec A.mo A.Z3 (by simp) ?_;show kq P (Jv A.w8) (mb _ _) _;have h:=a8h A v;simp only[Gj]at h;simp only[Jv,Gj,go_sem,aa,ae];refine ft h ?_;simp only[go_sem,aa]
theorem a3r:iz P A.lv [] (.agg (a5v A)):=by
 refine ec A.mo A.a3j (by simp) ?_;show kq P (Nf A.Cx A.Cw A.Cv A.Cu A.Ct A.Cs A.Cr A.Gg A.Cq A.Cp A.C3 A.C2 A.C1 A.Ea) (mb _ _) _;simp only[Nf,go_sem,aa,ae,ah,reduceCtorEq,a5v]
theorem abk(k:Int):iz P A.lb [.int ab k] (.bool (decide (0≤k∧k<14))):=by
 refine ec A.mo A.Uh (by simp) ?_;show kq P (Cm A.lv) (mb _ _) _;by_cases h1:0≤k
 ·simp only[Cm,go_sem,aa,reduceCtorEq,h1];refine Eu (a3r A) ?_;simp only[go_sem,aa,reduceCtorEq]
 simp only[Cm,go_sem,aa,reduceCtorEq,h1,false_and]
theorem anx(k:Int):iz P A.Br [.int ab k] (.Ar [.int ab (if 0≤k∧k<14 then kIn k.toNat else 0),.int ab (if 0≤k∧k<14 then 0 else 1)]):=by
 refine ec A.mo A.a0p (by simp) ?_;show kq P (Lf A.lb A.lv) (mb _ _) _;simp only[Lf,go_sem,aa,reduceCtorEq];refine ft (abk A k) ?_;by_cases h:0≤k∧k<14
 ·have hk:k.toNat<14:=by omega
  obtain⟨n,c,e⟩:=aad A hk
  have h4:k.toNat*4+4≤56:=by omega
  simp only[go_sem,aa,h];refine Eu (a3r A) ?_;simp only[go_sem,aa,ae,ah,reduceCtorEq,h.1,h.2,a0a,h4,e]
 simp only[go_sem,aa,h]
theorem arp{pr:List (List Sp)→Bool}(hpr:Lp A pr)(f:Ft)(hv:f.vs.length≤2^30)(h1:f.ls.length≤2^30)(h2:∀l∈f.ls,l.length≤2^30):iz P A.Ch [.agg (cFt f)] (.int ab (if v7 pr f then 0 else 220)):=by
 refine ec A.mo A.a3k (by simp) ?_;show kq P (Ng A.lb A.lv A.mq A.yh A.Cf) (mb _ _) _;have hp:=hpr f.ls h1 h2
 have hc:=arn A (l:=f.vs) (g:=A.yh) (j2:=[]) (p:=fun i=> !(L7 (f.vs.getD i v0))) (fun i hi=>by
  have e:f.vs.getD i v0=f.vs[i]:=by simp[cw,hi]
  rw[e];exact ao3 A _) (by omega)
 have a8s:((dt f.vs.length).any fun i=> !(L7 (f.vs.getD i v0)))= !(a9m f.vs):=by
  unfold a9m;rw[aho]
  try simp
 rw[a8s]at hc;simp only[vn]at hc;simp only[ku]at hp;unfold v7;simp only[Ng,cFt,vn,ku,go_sem,aa,ae,ah];refine ft (abk A f.k) ?_;by_cases hk:0≤f.k∧f.k<14
 ·have hkn:f.k.toNat<14:=by omega
  obtain⟨n,c,e⟩:=aad A hkn
  have h4:f.k.toNat*4+4≤56:=by omega
  simp only[go_sem,aa,ae,ah,hk,ag];refine Eu (a3r A) ?_;by_cases c1:(f.vs.length:Int)=Is f.k.toNat
  ·have c1':((f.vs.length:Int) !=Is f.k.toNat)=false:=by simp[c1]
   have aCm:((f.vs.length:Int)==Is f.k.toNat)=true:=by simp[c1]
   simp only[go_sem,aa,ae,ah,reduceCtorEq,hk.1,hk.2,a0a,h4,e,c1',aCm];refine j5 hc ?_;cases c2:a9m f.vs
   ·simp only[go_sem,aa,dz]
   have hh:∀b:Bool,(f.k==1)=b→(f.k=1↔b=true):=fun b hb=>by rw[←hb];simp
   unfold a5w;cases p1:f.k==1
   ·cases p2:f.k==2
    ·cases p3:f.k==3
     ·by_cases c3:(0:Int)<f.ls.length
      ·have c3':((f.ls.length:Int)==0)=false:=beq_eq_false_iff_ne.2 (by omega);simp only[go_sem,aa,ae,ah,reduceCtorEq,p1,p2,p3,ag,c3,c3',W6]
      have c3':((f.ls.length:Int)==0)=true:=beq_iff_eq.2 (by omega);simp only[go_sem,aa,ae,ah,reduceCtorEq,p1,p2,p3,ag,c3,c3',W6]
     simp only[go_sem,aa,ae,ah,reduceCtorEq,p1,p2,p3,aJu];refine ft hp ?_;cases c3:pr f.ls<;>simp only[go_sem,aa,kf,reduceCtorEq]
    simp only[go_sem,aa,ae,ah,reduceCtorEq,p1,p2,aJu,M6];refine ft hp ?_;cases c3:pr f.ls<;>simp only[go_sem,aa,kf,reduceCtorEq]
   simp only[go_sem,aa,ae,ah,reduceCtorEq,p1,M6];refine ft hp ?_;cases c3:pr f.ls<;>simp only[go_sem,aa,kf,reduceCtorEq]
  have c1':((f.vs.length:Int) !=Is f.k.toNat)=true:=by simp[c1]
  have aCm:((f.vs.length:Int)==Is f.k.toNat)=false:=by simp[c1]
  simp only[go_sem,aa,ae,ah,reduceCtorEq,hk.1,hk.2,a0a,h4,e,c1',aCm,dz]
 simp only[go_sem,aa,hk,dz]
theorem aw0{pr:List (List Sp)→Bool}(hpr:Lp A pr)(f:Ft)(l:List Pm)(hv:f.vs.length≤2^30)(h1:f.ls.length≤2^30)(h2:∀l∈f.ls,l.length≤2^30):
  iz P A.Cg [.agg (cFt f),jq l] (.int ab (if v7 pr f then(if xt l then 0 else 1)else 220)):=by
 refine ec A.mo A.a3i (by simp) ?_;show kq P (Nc A.Ch A.o8) (mb _ _) _;have hc:=arp A hpr f hv h1 h2;have hp:=Wb A l;simp only[cFt,vn,ku]at hc;simp only[jq]at hp;simp only[Nc,cFt,vn,ku,jq,go_sem,aa,ae];refine ft hc ?_;cases c1:v7 pr f
 ·simp only[go_sem,aa,kf,reduceCtorEq]
 simp only[go_sem,aa,kf,reduceCtorEq];refine ft hp ?_;simp only[go_sem,aa]
end
def Pf(n:ByteArray)(v:Int):List (ByteArray×Int)→List (ByteArray×Int)
 |[]=>[(n,v)]
 |(a,b)::r=>if kz n a then(n,v)::r else(a,b)::Pf n v r
def xn(n:ByteArray):List (ByteArray×Int)→Option Int
 |[]=>none
 |(a,b)::r=>if kz n a then some b else xn n r
def cE(e:ByteArray×Int):D×C:=(.str e.1,.d (.int ab e.2))
def Gq(l:List Pm):List (ByteArray×Int):=l.foldl (fun es p=>Pf p.n p.v es) []
theorem S7(a b:ByteArray):kz a b=kz b a:=by
 unfold kz;rw[Td,beq_iff_eq,beq_iff_eq];exact⟨Eq.symm,Eq.symm⟩
theorem a1g{a b:ByteArray}(c:ByteArray)(h:kz a b=true):kz a c=kz b c:=by rw[a3q h]
theorem air(n:ByteArray)(v:Int)(es:List (ByteArray×Int)):Nh (.one .str) (.str n) (C.d (.int ab v)) (es.map cE)=some ((Pf n v es).map cE):=by
 induction es with
 |nil=>rfl
 |cons e r ih=>
  obtain⟨a,b⟩:=e;simp only[dr,Pf]
  show(match Ez (.one .str) (.str n) (.str a)with|some true=>_|some false=>_|none=>_)=_
  have:Ez (.one .str) (.str n) (.str a)=some (kz n a):=by show some (n==a)=_;rw[amh]
  rw[this];cases kz n a
  ·simp only[ih,ir,fw,bn,dr];rfl
  simp only[cz,dr];rfl
theorem Yr(n:ByteArray)(es:List (ByteArray×Int)):Hs (.one .str) (.str n) (es.map cE)=some ((xn n es).map fun x=>C.d (.int ab x)):=by
 induction es with
 |nil=>rfl
 |cons e r ih=>
  obtain⟨a,b⟩:=e;simp only[dr,xn]
  show(match Ez (.one .str) (.str n) (.str a)with|some true=>_|some false=>_|none=>_)=_
  have:Ez (.one .str) (.str n) (.str a)=some (kz n a):=by show some (n==a)=_;rw[amh]
  rw[this];cases kz n a
  ·simp only[ih,fw,bn]
  simp only[cz];rfl
theorem acx(n m:ByteArray)(v:Int)(es:List (ByteArray×Int)):xn n (Pf m v es)=if kz n m then some v else xn n es:=by
 induction es with
 |nil=>simp[Pf,xn]
 |cons e r ih=>
  obtain⟨a,b⟩:=e;simp only[Pf];cases h:kz m a
  ·simp only[fw,bn,xn,ih];cases h2:kz n a
   ·simp
   have:kz n m=false:=by rw[a1g m h2,S7,h]
   simp[this]
  simp only[cz,xn];cases h2:kz n m
  ·have:kz n a=false:=by rw[S7,←a1g n h,S7,h2]
   simp[this]
  simp
theorem Ou(v:Vl)(l:List Pm):om v l=match xn v.n (Gq l)with|some x=>(v.t*x+v.a,true)|none=>(v.a,isE v.n):=by
 have:∀r:List Pm,om v r.reverse=match xn v.n (Gq r.reverse)with|some x=>(v.t*x+v.a,true)|none=>(v.a,isE v.n):=by
  intro r
  induction r with
  |nil=>rfl
  |cons p r ih=>
   have e1:om v (r.reverse++[p])=Po v (om v r.reverse) p:=by unfold om;rw[pn];rfl
   have e2:Gq (r.reverse++[p])=Pf p.n p.v (Gq r.reverse):=by unfold Gq;rw[pn];rfl
   rw[tu,e1,e2,acx,ih];unfold Po;rw[S7 p.n v.n];cases kz v.n p.n
   ·simp
   simp
 have h:=this l.reverse
 rwa[pz]at h
theorem aor{l:List Pm}{k:Nat}(h:k<l.length):Gq (l.take (k+1))=Pf l[k].n l[k].v (Gq (l.take k)):=by
 unfold Gq;rw[gl,pn];simp[h]
theorem Rp{n:ByteArray}:∀{es:List (ByteArray×Int)} {x:Int},xn n es=some x→∃a,(a,x)∈es∧kz n a=true:=by
 intro es
 induction es with
 |nil=>intro x h;cases h
 |cons e r ih=>
  intro x h;obtain⟨a,b⟩:=e;simp only[xn]at h;split at h
  ·rename_i hs;cases h;exact⟨a,by simp,hs⟩
  obtain⟨a',h1,h2⟩:=ih h;exact⟨a',by simp[h1],h2⟩
theorem a5b{n:ByteArray}{v:Int}:∀{es:List (ByteArray×Int)} {e:ByteArray×Int},e∈Pf n v es→e=(n,v)∨e∈es:=by
 intro es
 induction es with
 |nil=>intro e h;simp[Pf]at h;exact .inl h
 |cons x r ih=>
  intro e h;obtain⟨a,b⟩:=x;simp only[Pf]at h;split at h
  ·rcases fb.1 h with h|h
   ·exact .inl h
   exact .inr (by simp[h])
  rcases fb.1 h with h|h
  ·exact .inr (by simp[h])
  rcases ih h with h|h
  ·exact .inl h
  exact .inr (by simp[h])
theorem Yo(l:List Pm):∀e∈Gq l,∃p∈l,e=(p.n,p.v):=by
 have:∀r:List Pm,∀e∈Gq r.reverse,∃p∈r,e=(p.n,p.v):=by
  intro r
  induction r with
  |nil=>intro e h;simp[Gq]at h
  |cons p r ih=>
   intro e h
   have e2:Gq (r.reverse++[p])=Pf p.n p.v (Gq r.reverse):=by unfold Gq;rw[pn];rfl
   rw[tu,e2]at h;rcases a5b h with h|h
   ·exact⟨p,by simp,h⟩
   obtain⟨q,hq,he⟩:=ih e h;exact⟨q,by simp[hq],he⟩
 intro e he;have h:=this l.reverse e (by rw[pz];exact he);obtain⟨p,hp,hh⟩:=h;exact⟨p,by simpa using hp,hh⟩
theorem Lv{l:List Pm}(h:xt l=true):∀p∈l,yc p.n=true∧Qu p.v=true:=by
 unfold xt at h;simp only[da,decide_eq_true_eq]at h;intro p hp;obtain⟨i,hi,rfl⟩:=gf.1 hp;have:=dj.1 h.2 i (ez.2 hi);unfold a8n at this;simp only[ax hi,da]at this;exact⟨this.1,this.2.1⟩
theorem a5l{n:ByteArray}(h:yc n=true):isE n=false:=by
 cases he:isE n
 ·rfl
 have:kz n ⟨#[]⟩=true:=he;have:=a3q this;subst this
 have h0:yc ⟨#[]⟩=false:=by decide+kernel
 rw[h0]at h;cases h
theorem apb{l:List Pm}(h:xt l=true){n:ByteArray}(he:isE n=true):xn n (Gq l)=none:=by
 cases hg:xn n (Gq l)with
 |none=>rfl
 |some x=>
  obtain⟨a,h1,h2⟩:=Rp hg;obtain⟨p,hp,e⟩:=Yo l _ h1;have h3:=a5l (Lv h p hp).1;cases e
  have:isE n=isE p.n:=by rw[a3q h2]
  rw[this,h3]at he;cases he
section
variable{P:Program}(A:Pr P)
theorem ai9{pr:List (List Sp)→Bool}(f:Ft)(l:List Pm)(c1:v7 pr f=true)(c2:xt l=true):iz P A.Ae [.agg (cFt f),jq l] (.Ar [if(r9 pr f l).1.map xk=[]then .ck else .gz 1 ((r9 pr f l).1.map xk),.int ab (r9 pr f l).2]):=by
 refine ec A.mo A.Z1 (by simp) ?_;show kq P Jt (mb _ _) _
 have hN:r9 pr f l=if f.vs.all (fun v=>(om v l).2)then(f.vs.map fun v=>(om v l).1,0)else([],4):=by
  unfold r9;rw[al (by rw[c1];simp),al (by rw[c2];simp)]
 rw[hN];have hfl:=Vf c1;obtain⟨hpl,hpv⟩:=Yf c2;simp only[Jt,cFt,vn,ku,jq,go_sem,aa,ae];refine we (fun s'=>s'.base=0∧s'.tmp 2= .ie 2 (s'.av 2) 0∧s'.dc 2=some (.loc [.d (.int ab f.k),.d (.gz 3 (f.vs.map Gj)),.d (.gz 1 (f.ls.map fun l=>[xf l]))])∧s'.tmp 6= .l9 14 (s'.av 14)∧s'.mp 14=some ((Gq l).map cE)) ?_ ?_
 ·refine fp l.length (fun k s'=>s'.base=0∧s'.tmp 2= .ie 2 (s'.av 2) 0∧s'.dc 2=some (.loc [.d (.int ab f.k),.d (.gz 3 (f.vs.map Gj)),.d (.gz 1 (f.ls.map fun l=>[xf l]))])∧s'.tmp 6= .l9 14 (s'.av 14)∧s'.mp 14=some ((Gq (l.take k)).map cE)∧
   s'.tmp 15= .d (.gz 2 (l.map ti))∧s'.tmp 16= .d (.int ab l.length)∧s'.tmp 17= .d (.int ab k)) ?_ ?_
  ·simp only[go_sem,aa,ag];rfl
  rintro k s' hk ⟨eb,f2,b2,f6,m6,f15,f16,f17⟩;by_cases hlt:(k:Int)<l.length
  ·have dq:k<l.length:=by omega
   have wk:=dh ((k:Int)+1) (by omega) (by omega);have hm:=aor dq;simp only[go_sem,aa,ae,ah,reduceCtorEq,eb,f2,b2,f6,m6,f15,f16,f17,hlt,Zd dq,bp,ao,PS.ents,air,wk,dq,hm]
   try simp
  have:k=l.length:=by omega
  subst this;rw[eh]at m6;simp only[go_sem,aa,reduceCtorEq,eb,f2,b2,f6,m6,f16,f17,hlt]
 rintro s' ⟨eb,f2,b2,f6,m6⟩;simp only[go_sem,aa,ae,ah,eb,f2,b2]
 refine fp f.vs.length (fun i s'=>s'.base=0∧s'.tmp 2= .ie 2 (s'.av 2) 0∧s'.dc 2=some (.loc [.d (.int ab f.k),.d (.gz 3 (f.vs.map Gj)),.d (.gz 1 (f.ls.map fun l=>[xf l]))])∧s'.tmp 6= .l9 14 (s'.av 14)∧s'.mp 14=some ((Gq l).map cE)∧
  s'.tmp 28= .d (.gz 3 (f.vs.map Gj))∧s'.tmp 29= .d (.int ab f.vs.length)∧s'.tmp 30= .d (.int ab i)∧
  x9 s' 60 1 (((f.vs.take i).map fun v=>(om v l).1).map xk) (s'.tmp 9)∧∀i',i'<i→(om (f.vs.getD i' v0) l).2=true) ?_ ?_
 ·simp only[go_sem,aa,f2,b2,f6,m6,ag];exact⟨x9.nil,by simp⟩
 clear eb f2 b2 f6 m6;rintro i s' hi ⟨eb,f2,b2,f6,m6,f28,f29,f30,acc,hI⟩;by_cases hlt:(i:Int)<f.vs.length
 ·have dq:i<f.vs.length:=by omega
  have wi:=dh ((i:Int)+1) (by omega) (by omega);have hvi:=Xi c1 i dq
  have hgi:f.vs.getD i v0=f.vs[i]:=by simp[cw,dq]
  have hg:=Zc dq;obtain⟨⟨t1,t2⟩,a1,a2⟩:=a4i hvi;have hna:=Ou (f.vs.getD i v0) l;have hge:=fun h=>apb c2 (n:=(f.vs.getD i v0).n) h
  have aHd:∀x,xn (f.vs.getD i v0).n (Gq l)=some x→-1000000≤x∧x≤1000000:=fun x hx=>by
   obtain⟨a,h1,_⟩:=Rp hx;obtain⟨p,hp,e⟩:=Yo l _ h1;cases e;exact a5h (Lv c2 p hp).2
  have ayg:(om (f.vs.getD i v0) l).2=false→f.vs.all (fun v=>(om v l).2)=false:=fun h=>by
   rw[a3p];exact⟨f.vs[i],df dq,by rw[←hgi,h];simp⟩
  generalize hvv:f.vs.getD i v0=v at*
  simp only[go_sem,aa,ae,ah,reduceCtorEq,eb,f6,m6,f28,f29,f30,hlt,hg,bp,ao,Cy,PS.ents,Yr]
  cases c4:xn v.n (Gq l)with
  |some x=>
   rw[c4]at hna
   have hne:isE v.n=false:=by
    cases h:isE v.n
    ·rfl
    rw[hge h]at c4;cases c4
   have ath:=hne;unfold isE at ath;have m1:=axo ⟨t1,t2⟩ (x:=v.t) (y:=x) (aHd x c4);have w1:=dh (v.t*x) (by omega) (by omega);have w2:=dh (v.t*x+v.a) (by omega) (by omega)
   have e1:(((f.vs.take (i+1)).map fun v=>(om v l).1).map xk)=((f.vs.take i).map fun v=>(om v l).1).map xk++[xk (v.t*x+v.a)]:=by
    rw[gl,fl,fl];simp[dq,←hgi,hna]
   simp only[go_sem,aa,ae,ah,reduceCtorEq,di,ath,ca,w1,w2];refine uh (dm:=((f.vs.take i).map fun v=>(om v l).1).map xk) (ys:=[xk (v.t*x+v.a)]) (osz:=some 1) ?_ ?_ rfl (by simp[xk,D.one]) ?_ (by simp) ?_
   ·simp only[go_sem,aa];exact acc.mono (by simp[aj]) (by simp[aj])
   ·simp only[go_sem,aa,qh];rfl
   ·simp only[ag,cj,du,er];omega
   intro s3 g;have Hg:=g.acc (by simp);rw[g.tmp,cu]at Hg;simp only[gd]at Hg;have gv:=g.av 2 (by simp);have att:=g.av 14 (by simp)
   have gb:s3.dc 2=s'.dc 2:=by rw[g.dc];simp[aj]
   have gm:s3.mp 14=s'.mp 14:=by rw[g.mp]
   simp only[aj,aa,reduceIte]at gv att;simp only[go_sem,aa,reduceCtorEq,g.tmp,f2,f6,f28,f29,f30,gm,m6,g.base,gb,gv,att,b2,e1,wi,dq];exact⟨by simp,Hg.mono rfl rfl,qw hI (by rw[hvv,hna])⟩
  |none=>
   rw[c4]at hna;cases hE:isE v.n
   ·have hE':=hE;unfold isE at hE';simp only[hE]at hna;simp only[go_sem,aa,ae,ah,hE',ca,ayg (by rw[hna])]
   have hE':=hE;unfold isE at hE';simp only[hE]at hna
   have aE6:om v l=(v.t*0+v.a,true):=by rw[hna];simp
   have m1:=axo ⟨t1,t2⟩ (x:=v.t) (y:=0) (by omega);have w1:=dh (v.t*0) (by omega) (by omega);have w2:=dh (v.t*0+v.a) (by omega) (by omega)
   have e1:(((f.vs.take (i+1)).map fun v=>(om v l).1).map xk)=((f.vs.take i).map fun v=>(om v l).1).map xk++[xk (v.t*0+v.a)]:=by
    rw[gl,fl,fl];simp[dq,←hgi,aE6]
   simp only[go_sem,aa,ae,ah,reduceCtorEq,di,hE',ca,w1,w2];refine uh (dm:=((f.vs.take i).map fun v=>(om v l).1).map xk) (ys:=[xk (v.t*0+v.a)]) (osz:=some 1) ?_ ?_ rfl (by simp[xk,D.one]) ?_ (by simp) ?_
   ·simp only[go_sem,aa];exact acc.mono (by simp[aj]) (by simp[aj])
   ·simp only[go_sem,aa,qh];rfl
   ·simp only[ag,cj,du,er];omega
   intro s3 g;have Hg:=g.acc (by simp);rw[g.tmp,cu]at Hg;simp only[gd]at Hg;have gv:=g.av 2 (by simp);have att:=g.av 14 (by simp)
   have gb:s3.dc 2=s'.dc 2:=by rw[g.dc];simp[aj]
   have gm:s3.mp 14=s'.mp 14:=by rw[g.mp]
   simp only[aj,aa,reduceIte]at gv att;simp only[go_sem,aa,reduceCtorEq,g.tmp,f2,f6,f28,f29,f30,gm,m6,g.base,gb,gv,att,b2,e1,wi,dq];exact⟨by simp,Hg.mono rfl rfl,qw hI (by rw[hvv,aE6])⟩
 have:i=f.vs.length:=by omega
 subst this;rw[eh]at acc
 have hall:f.vs.all (fun v=>(om v l).2)=true:=by
  rw[dj];intro v hv;obtain⟨i,hi,rfl⟩:=gf.1 hv;have:=hI i hi;simpa[cw,hi]using this
 rw[hall];simp only[go_sem,aa,reduceCtorEq,eb,f29,f30,hlt];rcases acc with ⟨a1,a2⟩|⟨a1,a2,a3⟩
 ·simp only[go_sem,a1,a2]
 rw[al a1,a2];simp only[go_sem,a3,ag]
theorem a4v{pr:List (List Sp)→Bool}(hpr:Lp A pr)(f:Ft)(l:List Pm)(hv:f.vs.length≤2^30)(h1:f.ls.length≤2^30)(h2:∀l∈f.ls,l.length≤2^30):iz P A.qg [.agg (cFt f),jq l] (a7f (r9 pr f l)):=by
 have main:iz P A.qg [.agg (cFt f),jq l] (.Ar [if(r9 pr f l).1.map xk=[]then .ck else .gz 1 ((r9 pr f l).1.map xk),.int ab (r9 pr f l).2]):=by
  refine ec A.mo A.Z2 (by simp) ?_;show kq P (Ju A.Cg A.Ae) (mb _ _) _;have hw:=aw0 A hpr f l hv h1 h2;have hn:=fun c1 c2=>ai9 A f l (pr:=pr) c1 c2;simp only[cFt,vn,ku,jq]at hw hn;simp only[Ju,cFt,vn,ku,jq,go_sem,aa,ae];refine j5 hw ?_;cases c1:v7 pr f
  ·have:r9 pr f l=([],220):=by unfold r9;rw[bd c1]
   rw[this];simp only[go_sem,aa,kf,reduceCtorEq]
  cases c2:xt l
  ·have:r9 pr f l=([],1):=by unfold r9;rw[al (by rw[c1];simp),bd c2]
   rw[this];simp only[go_sem,aa,kf,reduceCtorEq]
  simp only[go_sem,aa,kf,ae,reduceCtorEq];refine j5 (hn c1 c2) ?_;simp only[go_sem,aa]
 generalize r9 pr f l=x at main⊢;refine main.M8 fun G v hv=>?_;split at hv
 ·rename_i he;unfold a7f;rw[he];exact ae8 G v hv
 exact hv
end
theorem Wk.uw{xs ys:List D}{o:Nat}(hl:xs.length=ys.length)(h:∀(i:Nat) (x y:D),xs[i]? =some x→ys[i]? =some y→Wk x y):Wk (.uw xs o) (.uw ys o):=by
 intro G v hv
 cases hv with
 | @uw _ b p _ k1 k2=>
  refine .uw (fun j hj=>k1 j (by omega)) fun j y u hy hu=>?_
  have hj:j<xs.length:=by have:=(aw.1 hy).1;omega
  exact h j _ y (ax hj) hy G u (k2 j _ u (ax hj) hu)
theorem Wk.oq{f:Nat}{xs ys:List D}(hl:xs.length=ys.length)(h:∀(i:Nat) (x y:D),xs[i]? =some x→ys[i]? =some y→Wk x y):Wk (.oq f xs) (.oq f ys):=by
 intro G v hv
 cases hv with
 | @oq _ _ vs k1 k2=>
  refine .oq (by omega) fun j y u hy hu=>?_
  have hj:j<xs.length:=by have:=(aw.1 hy).1;omega
  exact h j _ y (ax hj) hy G u (k2 j _ u (ax hj) hu)
theorem Wk.one{x y:D}(h:Wk x y):∀(i:Nat) (a b:D),[x][i]? =some a→[y][i]? =some b→Wk a b:=by
 intro i a b ha hb
 match i with
 |0=>simp at ha hb;subst ha hb;exact h
 |i+1=>simp at ha
def U2(ns:List Nd)(s:ByteArray):Int:=zm (fun i=>kz (ns.getD i n0).n s) ns.length
def aa8(ns:List Nd)(s:ByteArray):D:=if 0≤U2 ns s then .uw (zw (ns.getD (U2 ns s).toNat n0)) 0 else .Wz
theorem a6b(ns:List Nd)(s:ByteArray):Th ns s=decide (0≤U2 ns s):=by
 have:decide (0≤U2 ns s)=decide (U2 ns s≥0):=rfl;unfold U2 at this⊢;rw[this,Rr];unfold Th;rw[Td,Av,Av];constructor
 ·rintro⟨n,hn,h⟩;obtain⟨i,hi,rfl⟩:=jt hn;exact⟨i,ez.2 hi,by simpa[cw,hi]using h⟩
 rintro⟨i,hi,h⟩;have hi:=ez.1 hi;exact⟨ns[i],df hi,by simpa[cw,hi]using h⟩
def a3n(ns:List Nd)(out:List ByteArray)(i:Nat):Bool:= !hasB out (ns.getD i n0).n&&L8 (ns.getD i n0) out
def Kt(ns:List Nd)(out:List ByteArray):Int:=zm (a3n ns out) ns.length
def Lw(ns:List Nd):Nat→List ByteArray→List ByteArray
 |0,out=>out
 |k+1,out=>if Kt ns out<0 then out else Lw ns k (out++[(ns.getD (Kt ns out).toNat n0).n])
def o9(ns:List Nd):List ByteArray:=Lw ns (ns.length+1) []
theorem aom{ns:List Nd}{out:List ByteArray}(h:¬Kt ns out<0):T5 ns (out++[(ns.getD (Kt ns out).toNat n0).n])<T5 ns out:=by
 rcases J5 (a3n ns out) ns.length with ⟨h1,_⟩|⟨k,hk,hp,he,_⟩
 ·unfold Kt at h;rw[h1]at h;omega
 have e:Kt ns out=k:=he;rw[e,bp]
 have hg:ns.getD k n0=ns[k]:=by simp[cw,hk]
 unfold a3n at hp;rw[hg]at hp⊢;simp only[da,qp]at hp;unfold T5;refine am9 (n:=ns[k]) (fun m hm=>?_) ?_ ?_ ns (df hk)
 ·simp only[qp]at hm⊢;rw[Pt]at hm;simp only[S0]at hm;exact hm.1
 ·rw[Pt,Ei];simp
 simp[hp.1]
section
variable{P:Program}(A:Pr2 P)
theorem ar8(t:Tr)(s:ByteArray)(hl:t.ns.length≤2^50):iz P A.pw [.agg (ud t),.str s] (aa8 t.ns s):=by
 refine ec A.mo A.Vw (by simp) ?_;show kq P H8 (mb _ _) _;simp only[H8,ud,jq,l5,go_sem,aa,ae]
 refine fp t.ns.length (fun i s'=>s'.base=0∧s'.tmp 2= .ie 2 (s'.av 2) 0∧s'.dc 2=some (.loc [.d (.gz 2 (t.ps.map ti)),.d (.gz 5 (t.ns.map zw))])∧s'.tmp 1= .d (.str s)∧s'.tmp 8= .d (.int ab t.ns.length)∧s'.tmp 9= .d (.int ab i)∧
  ∀i',i'<i→kz (t.ns.getD i' n0).n s=false) ?_ ?_
 ·simp only[go_sem,aa,ag]
  try simp
 rintro i s' hi ⟨eb,f2,b2,f1,f8,f9,hI⟩;by_cases hlt:(i:Int)<t.ns.length
 ·have dq:i<t.ns.length:=by omega
  have wi:=dh ((i:Int)+1) (by omega) (by omega);have hg:=Kh dq;cases c1:kz (t.ns.getD i n0).n s
  ·have c1':=c1;unfold kz at c1';simp only[go_sem,aa,ae,ah,reduceCtorEq,eb,f2,b2,f1,f8,f9,hlt,hg,bp,ao,c1',wi,dq];exact⟨by simp,qw hI c1⟩
  have c1':=c1;unfold kz at c1';have e:U2 t.ns s=i:=Px (p:=fun i=>kz (t.ns.getD i n0).n s) dq c1 hI;simp only[go_sem,aa,ae,ah,reduceCtorEq,eb,f2,b2,f1,f8,f9,hlt,hg,bp,ao,c1'];unfold aa8;rw[e,bd (ao i),bp];rfl
 have:i=t.ns.length:=by omega
 subst this;have e:U2 t.ns s= -1:=Py (p:=fun i=>kz (t.ns.getD i n0).n s) hI;simp only[go_sem,aa,reduceCtorEq,eb,f8,f9,hlt];unfold aa8;rw[e];rfl
theorem arq(t:Tr)(s:ByteArray)(hl:t.ns.length≤2^50):iz P A.v8 [.str s,.uw (ud t) 0] (.bool !(Th t.ns s)):=by
 refine ec A.mo A.Yw (by simp) ?_;show kq P (Jo A.pw) (mb _ _) _;have h:=ar8 A t s hl;simp only[ud,jq,l5]at h;simp only[Jo,ud,jq,l5,go_sem,aa,ae,reduceCtorEq];refine j5 h ?_;rw[a6b];unfold aa8;by_cases c:0≤U2 t.ns s
 ·simp only[go_sem,aa,c]
 simp only[go_sem,aa,c]
theorem ani(s:ByteArray)(out:List ByteArray)(hl:out.length≤2^50):iz P A.qk [.str s,.uw [ng out] 0] (.bool !(hasB out s)):=by
 refine ec A.mo A.Qw (by simp) ?_;show kq P (D2 A.ma) (mb _ _) _;have h:=Tv A.toPr out s hl;simp only[ng]at h;simp only[D2,ng,go_sem,aa,reduceCtorEq];refine j5 h ?_;simp only[go_sem,aa]
theorem ar7(n:Nd)(out:List ByteArray)(hl:out.length≤2^50)(hi:n.ins.length≤2^40):iz P A.ov [.agg (zw n),.uw [ng out] 0] (.bool (!hasB out n.n&&L8 n out)):=by
 refine ec A.mo A.Sk (by simp) ?_;show kq P (En A.ma A.qk A.kg) (mb _ _) _;have h:=Tv A.toPr out n.n hl
 have h2:=a9y A.toPr (l:=n.ins) (g:=A.qk) (j2:=[.uw [ng out] 0]) (p:=fun i=> !(hasB out (n.ins.getD i ⟨#[]⟩))) (fun i hi=>by
  have e:n.ins.getD i ⟨#[]⟩=n.ins[i]:=by simp[cw,hi]
  rw[e];exact ani A _ _ hl) (by omega)
 have a8s:((dt n.ins.length).any fun i=> !(hasB out (n.ins.getD i ⟨#[]⟩)))= !(L8 n out):=by
  unfold L8;rw[aho];simp
 rw[a8s]at h2;simp only[ng]at h h2;simp only[En,zw,vn,ku,ng,go_sem,aa,ae,ah];refine j5 h ?_;cases c1:hasB out n.n
 ·simp only[go_sem,aa,ae];refine j5 h2 ?_;simp only[go_sem,aa,Bool.not_not]
 simp only[go_sem,aa,dz]
theorem ael(t:Tr)(hn:t.ns.length≤1000)(hi:∀n∈t.ns,n.ins.length≤2^40):iz P A.nr [.agg (ud t)] (ng (o9 t.ns)):=by
 have main:iz P A.nr [.agg (ud t)] (C6 1 ((o9 t.ns).map ss)):=by
  refine ec A.mo A.Ub (by simp) ?_;show kq P (G6 A.ov A.ja) (mb _ _) _
  have h0:T5 t.ns []≤t.ns.length:=by unfold T5;exact Dg _ _
  simp only[G6,ud,jq,l5,go_sem,aa,ae]
  refine fp t.ns.length (fun i s'=>∃(out:List ByteArray) (c:C),s'.base=0∧s'.tmp 1= .ie 1 (s'.av 1) 0∧s'.dc 1=some (.loc [.d (.gz 2 (t.ps.map ti)),.d (.gz 5 (t.ns.map zw))])∧s'.tmp 3= .ie 3 (s'.av 3) 0∧s'.dc 3=some (.loc [c])∧a1a s' 20 1 (out.map ss) c∧
   T5 t.ns out+i≤t.ns.length∧out.length=i∧Lw t.ns (t.ns.length+1-i) out=o9 t.ns) ?_ ?_
  ·simp only[go_sem,aa];exact⟨[],.d .ck,rfl,a1a.nil,h0,rfl,rfl⟩
  rintro i s' D0 ⟨out,c,eb,f1,b1,f3,b3,acc,ho,hol,hor⟩
  have acm:=aeu A.toPr (l:=t.ns) (g:=A.ov) (j2:=[.uw [C6 1 (out.map ss)] 0]) (p:=a3n t.ns out) (fun j hj=>by
   have e:t.ns.getD j n0=t.ns[j]:=by simp[cw,hj]
   unfold a3n;rw[e];refine(ar7 A t.ns[j] out (by omega) (hi _ (df hj))).args rfl fun a x y hx hy=>?_
   match a with
   |0=>simp at hx hy;subst hx hy;exact Wk.refl _
   |1=>simp at hx hy;subst hx hy;exact Wk.uw rfl (Wk.one Kj)
   |a+2=>simp at hx) (by omega)
  simp only[l5]at acm
  have Eg:∀(K:PS→Prop) (r:List RI) (s2:PS),s2.cs 3 (s'.av 3)=some [c]→s2.dm 20 (s'.av 20)=s'.dm 20 (s'.av 20)→s2.av 20=s'.av 20→lk P r (s2.put (some 8) (.d (.int ab (Kt t.ns out)))) K→
    Ey P A.ja [.d (.gz 5 (t.ns.map zw)),.oq A.ov [(3,s'.av 3)]] [] false (some 8) s2 (Ac P r K):=by
   intro K r s2 h1 h2 h3 h4;refine⟨[.gz 5 (t.ns.map zw),.oq A.ov [.uw [C6 1 (out.map ss)] 0]],_,?_,acm.toC,.inl rfl,h4⟩;simp only[Hk,snap,h1,ju];rcases acc with ⟨a1,rfl⟩|⟨a1,rfl,a3⟩
   ·simp only[oh,C6,a1,cz,ir]
   have e1:s'.dm 20 (s'.av 20)=some (1,out.map ss):=by unfold PS.dm;rw[bd rfl,a3]
   simp only[oh,h2,e1,C6,a1,bn,cz,ir]
  by_cases hne:Kt t.ns out<0
  ·have O4:o9 t.ns=out:=by
    rw[←hor,show t.ns.length+1-i=(t.ns.length-i)+1 by omega,Lw,bd hne]
   simp only[go_sem,aa,ae,eb,f1,b1,f3];refine Eg _ _ _ (by simp[PS.cs,b3]) rfl rfl ?_;simp only[go_sem,aa,reduceCtorEq,f3,b3,hne,O4];rcases acc with ⟨a1,rfl⟩|⟨a1,rfl,a3⟩
   ·simp only[go_sem,C6,a1]
   simp only[go_sem,C6,a1,a3]
  have hop:=aom hne
  obtain⟨k,hk,hnx⟩:∃k,k<t.ns.length∧Kt t.ns out=k:=by
   rcases J5 (a3n t.ns out) t.ns.length with ⟨h1,_⟩|⟨k,hk,hp,he,_⟩
   ·unfold Kt at hne;rw[h1]at hne;omega
   exact⟨k,hk,he⟩
  have hg:=Kh hk
  have am4:Lw t.ns (t.ns.length+1-(i+1)) (out++[(t.ns.getD k n0).n])=o9 t.ns:=by
   rw[←hor,show t.ns.length+1-i=(t.ns.length+1-(i+1))+1 by omega]
   conv=>rhs;rw[Lw,al hne,hnx,bp]
  rw[hnx,bp]at hop;rw[hnx]at hne;simp only[go_sem,aa,ae,eb,f1,b1,f3];refine Eg _ _ _ (by simp[PS.cs,b3]) rfl rfl ?_;rw[hnx];simp only[go_sem,aa,ae,ah,reduceCtorEq,di,f1,b1,f3,b3,hne,hg,bp,ao];refine uh (dm:=out.map ss) (ys:=[ss (t.ns.getD k n0).n]) (osz:=some 1) ?_ ?_ rfl (by simp[ss,D.one]) ?_ (by simp) ?_
  ·simp only[go_sem,aa];have:=acc.acc;cases c<;>exact this.mono (by simp[]) (by simp[])
  ·simp only[go_sem,aa,qh,ss]
  ·simp only[ag,cj,du];omega
  intro s3 g;have gv1:=g.av 1 (by simp);have gv3:=g.av 3 (by simp)
  have gb1:s3.dc 1=s'.dc 1:=by rw[g.dc];simp[aj]
  have gb3:s3.dc 3=s'.dc 3:=by rw[g.dc];simp[aj]
  have aEu:s3.dc 20=some (.arr 1 (out.map ss++[ss (t.ns.getD k n0).n])):=by rw[g.dc];simp[aj]
  have gt:=g.tmp;simp only[gd]at gt;simp only[]at gv1 gv3;simp only[go_sem,aa,gt,f1,f3,g.base,gv1,gv3,gb1,gb3,aEu,b1,b3,fg];refine⟨by omega,out++[(t.ns.getD k n0).n],_,rfl,.inr ⟨by simp,?_,?_⟩,by omega,by simp[hol],am4⟩
  ·simp
  simp[aEu,aj]
 exact main.M8 Kj
end
theorem adh:∀(x y:List UInt8),amn x y=decide (x<y):=by
 intro x
 induction x with
 |nil=>
  intro y
  cases y with
  |nil=>rfl
  |cons b y=>simp[amn]
 |cons a x ih=>
  intro y
  cases y with
  |nil=>simp[amn]
  |cons b y=>
   simp only[amn,ih,List.cons_lt_cons_iff];rw[Td];simp
theorem Y0(a b:ByteArray):strLt a b=decide (a.toList<b.toList):=adh _ _
theorem a1c{a b c:ByteArray}(h:strLt a b=true)(k:strLt b c=true):strLt a c=true:=by
 rw[Y0,decide_eq_true_eq]at*
 exact List.lt_trans h k
theorem Pk{a b:ByteArray}(h:strLt a b=true):strLt b a=false:=by
 rw[Y0,decide_eq_true_eq]at h;rw[Y0,decide_eq_false_iff_not];exact List.lt_asymm h
def adv:List Nd→Prop
 |[]=>True
 |n::r=>isE n.n=false∧(∀m∈r,strLt n.n m.n=true)∧adv r
theorem ao9{ns:List Nd}(h1:∀n∈ns,isE n.n=false)(h2:∀i (_:i+1<ns.length),strLt (ns[i]'(by omega)).n (ns[i+1]).n=true):adv ns:=by
 induction ns with
 |nil=>trivial
 |cons n r ih=>
  refine⟨h1 n (by simp),?_,ih (fun m hm=>h1 m (by simp[hm])) fun i hi=>?_⟩
  ·have:∀k (hk:k<r.length),strLt n.n (r[k]).n=true:=by
    intro k
    induction k with
    |zero=>intro hk;exact h2 0 (by simp;omega)
    |succ k ihk=>
     intro hk;refine a1c (ihk (by omega)) ?_;have:=h2 (k+1) (by simp;omega);simpa using this
   intro m hm;obtain⟨k,hk,rfl⟩:=jt hm;exact this k hk
  have:=h2 (i+1) (by simp;omega);simpa using this
def adf(out:List ByteArray)(n:Nd):Bool:= !hasB out n.n&&L8 n out
theorem aph{out:List ByteArray}{b:ByteArray}(hb:isE b=false):∀{l:List Nd},(∀m∈l,strLt b m.n=true)→l.foldl (oz out) b=b:=by
 intro l
 induction l with
 |nil=>intro _;rfl
 |cons n r ih=>
  intro h
  have e:oz out b n=b:=by
   unfold oz;rw[hb,Pk (h n (by simp))];simp
  rw[Aq,e];exact ih fun m hm=>h m (by simp[hm])
theorem api{out:List ByteArray}:∀{l:List Nd},adv l→l.foldl (oz out) ⟨#[]⟩=match l.find? (adf out)with|some n=>n.n|none=>⟨#[]⟩:=by
 intro l
 induction l with
 |nil=>intro _;rfl
 |cons n r ih=>
  rintro⟨h1,h2,h3⟩;rw[Aq,List.find?_cons]
  have he:isE ⟨#[]⟩=true:=by decide+kernel
  cases hc:adf out n
  ·have e:oz out ⟨#[]⟩ n=⟨#[]⟩:=by
    unfold oz;unfold adf at hc;rw[he,M6,Hj,hc];rfl
   rw[e];exact ih h3
  have e:oz out ⟨#[]⟩ n=n.n:=by
   unfold oz;unfold adf at hc;rw[he,M6,Hj,hc];rfl
  rw[e];exact aph h1 h2
theorem apl(ns:List Nd)(out:List ByteArray):(Kt ns out<0∧ns.find? (adf out)=none)∨(¬Kt ns out<0∧ns.find? (adf out)=some (ns.getD (Kt ns out).toNat n0)):=by
 rcases J5 (a3n ns out) ns.length with ⟨h1,h2⟩|⟨k,hk,hp,he,hb⟩
 ·refine .inl ⟨by unfold Kt;omega,Xs.2 fun n hn=>?_⟩;obtain⟨i,hi,rfl⟩:=jt hn;have:=h2 i hi;unfold a3n at this
  have e:ns.getD i n0=ns[i]:=by simp[cw,hi]
  rw[e]at this;unfold adf;simp[this]
 have e:Kt ns out=k:=he
 have eg:ns.getD k n0=ns[k]:=by simp[cw,hk]
 refine .inr ⟨by omega,?_⟩;rw[e,bp,eg];refine Zn.2 ⟨?_,ns.take k,ns.drop (k+1),?_,fun m hm=>?_⟩
 ·unfold a3n at hp;rw[eg]at hp;exact hp
 ·rw[←jj hk,Kx]
 obtain⟨i,hi,rfl⟩:=jt hm
 have hik:i<k:=by simp at hi;omega
 have:=hb i hik;unfold a3n at this
 have e:ns.getD i n0=ns[i]:=by
   have:i<ns.length:=by omega
   simp[cw,this]
 rw[e]at this;unfold adf;rw[adx];simp[this]
theorem aix{ns:List Nd}(h:adv ns)(hne:∀n∈ns,isE n.n=false):∀k out,Ww ns k out=Lw ns k out:=by
 intro k
 induction k with
 |zero=>intro out;rfl
 |succ k ih=>
  intro out
  have hb:P5 ns out=match ns.find? (adf out)with|some n=>n.n|none=>⟨#[]⟩:=api h
  rw[Ww,Lw];rcases apl ns out with ⟨h1,h2⟩|⟨h1,h2⟩
  ·rw[h2]at hb
   have he:isE ⟨#[]⟩=true:=by decide+kernel
   rw[hb,bd he,bd h1]
  rw[h2]at hb;have hm:ns.getD (Kt ns out).toNat n0∈ns:=V1 h2;rw[hb];simp only;rw[hne _ hm,al (by simp),al h1];exact ih _
theorem ac7{pr:List (List Sp)→Bool}{t:Tr}{i:Nat}(h:Aj pr t i=true):yc (t.ns.getD i n0).n=true∧w9 (t.ns.map Nd.n) i=true∧v7 pr (t.ns.getD i n0).f=true:=by
 unfold Aj at h;simp only[da]at h;exact⟨h.1,h.2.1,h.2.2.1⟩
theorem a5e{t:Tr}(h1:∀i,i<t.ns.length→yc (t.ns.getD i n0).n=true)(h2:∀i,i<t.ns.length→w9 (t.ns.map Nd.n) i=true):Ib t.ns=o9 t.ns:=by
 have hne:∀n∈t.ns,isE n.n=false:=by
  intro n hn;obtain⟨i,hi,rfl⟩:=jt hn;have:=h1 i hi
  have e:t.ns.getD i n0=t.ns[i]:=by simp[cw,hi]
  rw[e]at this;exact a5l this
 refine aix (ao9 hne fun i hi=>?_) hne _ _;have:=h2 (i+1) hi;unfold w9 at this
 have e1:i<t.ns.length:=by omega
 simpa[hi,e1]using this
section
variable{P:Program}(A:Pr2 P)
theorem Tw{pr:List (List Sp)→Bool}(hpr:Lp A.toPr pr)(t:Tr)(hs:Nu t):iz P A.jk [.agg (ud t)] (.int ab (if zz pr t then 0 else 230)):=by
 refine ec A.mo A.a36 (by simp) ?_;show kq P (N2 A.o8 A.jx A.qg A.Br A.v8 A.kg A.nr) (mb _ _) _;obtain⟨hs1,hs2⟩:=hs;have hrp:=Wb A.toPr t.ps;simp only[jq]at hrp;unfold zz;simp only[N2,ud,jq,l5,go_sem,aa,ae,ah];refine ft hrp ?_;cases c1:xt t.ps
 ·simp only[go_sem,aa,kf,reduceCtorEq,dz]
 by_cases c2:(20:Int)<t.ns.length
 ·have c2':¬t.ns.length≤20:=by omega
  simp only[go_sem,aa,kf,ae,reduceCtorEq,ag,c2,c2',dz]
 have c2':t.ns.length≤20:=by omega
 have no:∀i,i<t.ns.length→Aj pr t i=false→((dt t.ns.length).all (Aj pr t)&&((Ib t.ns).length:Int)==t.ns.length)=false:=fun i hi h=>by rw[all_false hi h,dz]
 simp only[go_sem,aa,kf,ae,reduceCtorEq,ag,c2,c2'];refine we (fun s'=>s'.base=0∧s'.tmp 1= .ie 1 (s'.av 1) 0∧s'.dc 1=some (.loc [.d (.gz 2 (t.ps.map ti)),.d (.gz 5 (t.ns.map zw))])∧∀i',i'<t.ns.length→yc (t.ns.getD i' n0).n=true∧w9 (t.ns.map Nd.n) i'=true) ?_ ?_
 ·refine fp t.ns.length (fun i s'=>s'.base=0∧s'.tmp 1= .ie 1 (s'.av 1) 0∧s'.dc 1=some (.loc [.d (.gz 2 (t.ps.map ti)),.d (.gz 5 (t.ns.map zw))])∧s'.tmp 22= .d (.gz 5 (t.ns.map zw))∧s'.tmp 23= .d (.int ab t.ns.length)∧s'.tmp 24= .d (.int ab i)∧
   ∀i',i'<i→yc (t.ns.getD i' n0).n=true∧w9 (t.ns.map Nd.n) i'=true) ?_ ?_
  ·simp only[go_sem,aa]
   try simp
  rintro i s' hi ⟨eb,f1,b1,f22,f23,f24,hI⟩;by_cases hlt:(i:Int)<t.ns.length
  ·have dq:i<t.ns.length:=by omega
   have wi:=dh ((i:Int)+1) (by omega) (by omega);have hg:=Kh dq
   have hgn:t.ns.getD i n0=t.ns[i]:=by simp[cw,dq]
   have Bs:Aj pr t i=(yc (t.ns.getD i n0).n&&(w9 (t.ns.map Nd.n) i&&(v7 pr (t.ns.getD i n0).f&&(((t.ns.getD i n0).ins.length:Int)==kIn (t.ns.getD i n0).f.k.toNat&&(((dt (t.ns.getD i n0).ins.length).all fun k=>Th t.ns ((t.ns.getD i n0).ins.getD k ⟨#[]⟩))&&(r9 pr (t.ns.getD i n0).f t.ps).2==0))))):=rfl;have no:=no i dq;have U8:=Y8 A.toPr (t.ns.getD i n0).n
   have am3:∀h:0<i,w9 (t.ns.map Nd.n) i=strLt t.ns[i-1].n (t.ns.getD i n0).n:=fun h=>by
    unfold w9
    have:i-1<t.ns.length:=by omega
    have h0:i≠0:=by omega
    simp[h0,this,dq]
   have hg':∀h:0<i,(t.ns.map zw)[i-1]? =some [.str t.ns[i-1].n,.int ab t.ns[i-1].f.k,vn t.ns[i-1].f.vs,ku t.ns[i-1].f.ls,ng t.ns[i-1].ins]:=fun h=>by
    have:i-1<t.ns.length:=by omega
    simp[this,zw]
   generalize hnn:t.ns.getD i n0=n at*
   simp only[vn,ku,ng]at hg hg';simp only[go_sem,aa,ae,ah,reduceCtorEq,eb,f22,f23,f24,hlt,hg,bp,ao];refine ft U8 ?_;cases d1:yc n.n
   ·have:Aj pr t i=false:=by rw[Bs,d1];rfl
    simp only[go_sem,aa,no this]
   by_cases d2:0<i
   ·have d2':(0:Int)<i:=by omega
    have w1:=dh ((i:Int)-1) (by omega) (by omega)
    have z:(0:Int)≤(i:Int)-1:=by omega
    cases d3:strLt t.ns[i-1].n n.n
    ·have d3':=d3;unfold strLt at d3'
     have:Aj pr t i=false:=by rw[Bs,am3 d2,d3,d1];rfl
     simp only[go_sem,aa,ae,ah,reduceCtorEq,f1,b1,d2',w1,J6 d2',hg' d2,z,d3',no this]
    have d3':=d3;unfold strLt at d3';simp only[go_sem,aa,ae,ah,reduceCtorEq,f1,b1,f22,f23,f24,d2',w1,J6 d2',hg' d2,z,d3',wi,dq];exact⟨by simp,qw hI (by rw[hnn,am3 d2];exact⟨d1,d3⟩)⟩
   have d2':¬(0:Int)<i:=by omega
   have hr0:w9 (t.ns.map Nd.n) i=true:=by unfold w9;simp;omega
   simp only[go_sem,aa,reduceCtorEq,f1,b1,f22,f23,f24,d2',wi,dq];exact⟨by simp,qw hI (by rw[hnn];exact⟨d1,hr0⟩)⟩
  have:i=t.ns.length:=by omega
  subst this;simp only[go_sem,aa,reduceCtorEq,eb,f1,b1,f23,f24,hlt];exact hI
 rintro s' ⟨eb,f1,b1,hnr⟩;simp only[go_sem,aa,ae,eb,f1,b1,ag];refine we (fun s'=>s'.base=0∧s'.tmp 1= .ie 1 (s'.av 1) 0∧s'.dc 1=some (.loc [.d (.gz 2 (t.ps.map ti)),.d (.gz 5 (t.ns.map zw))])∧(dt t.ns.length).all (Aj pr t)=true) ?_ ?_
 ·refine fp t.ns.length (fun i s'=>s'.base=0∧s'.tmp 1= .ie 1 (s'.av 1) 0∧s'.dc 1=some (.loc [.d (.gz 2 (t.ps.map ti)),.d (.gz 5 (t.ns.map zw))])∧s'.tmp 51= .d (.gz 5 (t.ns.map zw))∧s'.tmp 52= .d (.int ab t.ns.length)∧s'.tmp 53= .d (.int ab i)∧∀i',i'<i→Aj pr t i'=true) ?_ ?_
  ·simp only[go_sem,aa,f1,b1]
   try simp
  clear eb f1 b1;rintro i s' hi ⟨eb,f1,b1,f51,f52,f53,hI⟩;by_cases hlt:(i:Int)<t.ns.length
  ·have dq:i<t.ns.length:=by omega
   have wi:=dh ((i:Int)+1) (by omega) (by omega);have hg:=Kh dq
   have hgn:t.ns.getD i n0=t.ns[i]:=by simp[cw,dq]
   obtain⟨q1,q2,q3,q4⟩:=hs2 _ (df dq);rw[←hgn]at q1 q2 q3 q4;have Bs:Aj pr t i=(yc (t.ns.getD i n0).n&&(w9 (t.ns.map Nd.n) i&&(v7 pr (t.ns.getD i n0).f&&(((t.ns.getD i n0).ins.length:Int)==kIn (t.ns.getD i n0).f.k.toNat&&(((dt (t.ns.getD i n0).ins.length).all fun k=>Th t.ns ((t.ns.getD i n0).ins.getD k ⟨#[]⟩))&&(r9 pr (t.ns.getD i n0).f t.ps).2==0))))):=rfl;have no:=no i dq;rw[(hnr i dq).1,(hnr i dq).2,u9,u9]at Bs;have a68:=a4v A.toPr hpr (t.ns.getD i n0).f t.ps q2 q3 q4;have hin:=anx A.toPr (t.ns.getD i n0).f.k
   have ajs:=a9y A.toPr (l:=(t.ns.getD i n0).ins) (g:=A.v8) (j2:=[.uw (ud t) 0]) (p:=fun k=> !(Th t.ns ((t.ns.getD i n0).ins.getD k ⟨#[]⟩))) (fun k hk=>by
    have e:(t.ns.getD i n0).ins.getD k ⟨#[]⟩=(t.ns.getD i n0).ins[k]:=by rw[Au,ax hk];rfl
    rw[e];exact arq A t _ (by omega)) (by omega)
   have a8s:((dt (t.ns.getD i n0).ins.length).any fun k=> !(Th t.ns ((t.ns.getD i n0).ins.getD k ⟨#[]⟩)))= !((dt (t.ns.getD i n0).ins.length).all fun k=>Th t.ns ((t.ns.getD i n0).ins.getD k ⟨#[]⟩)):=by
    rw[aho];simp
   rw[a8s]at ajs
   generalize hnn:t.ns.getD i n0=n at*
   simp only[ud,jq,l5,ng]at ajs;simp only[vn,ku,ng]at hg;simp only[cFt,vn,ku,jq,a7f]at a68;simp only[go_sem,aa,ae,ah,reduceCtorEq,eb,f1,b1,f51,f52,f53,hlt,hg,bp,ao];refine j5 a68 ?_;cases c6:((r9 pr n.f t.ps).2==0)
   ·have c6':((r9 pr n.f t.ps).2 !=0)=true:=by unfold bne;rw[c6];rfl
    have:Aj pr t i=false:=by rw[Bs,c6];simp
    simp only[go_sem,aa,reduceCtorEq,c6',no this]
   have c6':((r9 pr n.f t.ps).2 !=0)=false:=by unfold bne;rw[c6];rfl
   have hfe:v7 pr n.f=true:=by
    cases h:v7 pr n.f
    ·unfold r9 at c6;rw[bd h]at c6;cases c6
    rfl
   have hk:0≤n.f.k∧n.f.k<14:=by
    have:=hfe;unfold v7 at this;simp only[da,decide_eq_true_eq]at this;exact this.1
   rw[hfe,c6,u9,Hj]at Bs;rw[bd hk,bd hk]at hin;simp only[go_sem,aa,ae,ah,reduceCtorEq,c6'];refine ft hin ?_;cases c7:((n.ins.length:Int)==kIn n.f.k.toNat)
   ·have c7':(kIn n.f.k.toNat !=(n.ins.length:Int))=true:=by
     have:=beq_eq_false_iff_ne.1 c7;exact bne_iff_ne.2 fun h=>this h.symm
    have:Aj pr t i=false:=by rw[Bs,c7];rfl
    simp only[go_sem,aa,ae,reduceCtorEq,ag,c7',no this]
   have c7':(kIn n.f.k.toNat !=(n.ins.length:Int))=false:=by
    have:=beq_iff_eq.1 c7;rw[this];simp
   rw[c7,u9]at Bs;simp only[go_sem,aa,ae,reduceCtorEq,f1,ag,c7'];refine aku (ds:=[.gz 1 (n.ins.map ss),.oq A.v8 [.uw [.gz 2 (t.ps.map ti),.gz 5 (t.ns.map zw)] 0]]) ?_ ajs (.inl rfl) ?_
   ·simp only[go_sem,aa,b1,ju,oh]
   cases c8:(dt n.ins.length).all fun k=>Th t.ns (n.ins.getD k ⟨#[]⟩)
   ·have:Aj pr t i=false:=by rw[Bs,c8]
    simp only[go_sem,aa,no this]
   simp only[go_sem,aa,reduceCtorEq,f1,b1,f51,f52,f53,wi,dq];exact⟨by simp,qw hI (by rw[Bs,c8])⟩
  have:i=t.ns.length:=by omega
  subst this;simp only[go_sem,aa,reduceCtorEq,eb,f1,b1,f52,f53,hlt];exact all_true hI
 clear eb f1 b1;rintro s' ⟨eb,f1,b1,hall⟩
 have ho:=ael A t (by omega) (fun n hn=>by have:=(hs2 n hn).1;omega)
 rw[←a5e (fun i hi=>(hnr i hi).1) (fun i hi=>(hnr i hi).2)]at ho;simp only[ud,jq,l5,ng]at ho;rw[hall,u9];simp only[go_sem,ae,eb,f1,b1];refine ft ho ?_;cases c9:(((Ib t.ns).length:Int)==t.ns.length)
 ·have c9':(((Ib t.ns).length:Int) !=t.ns.length)=true:=by unfold bne;rw[c9];rfl
  simp only[go_sem,aa,ae,reduceCtorEq,f1,b1,ag,c9']
 have c9':(((Ib t.ns).length:Int) !=t.ns.length)=false:=by unfold bne;rw[c9];rfl
 simp only[go_sem,aa,ae,reduceCtorEq,f1,b1,ag,c9']
end
def fj(u v:Sp):Int:=u.1*v.2-u.2*v.1
def agc(e:Ed)(p:Sp):Bool:=fj (lp e.1 p) (lp e.2 p)==0&&decide ((e.1.1-p.1)*(e.2.1-p.1)+(e.1.2-p.2)*(e.2.2-p.2)<0)
theorem aas(n:Int):(if(if n<1 then n else 1)> -1 then(if n<1 then n else 1)else-1)=sgn n:=by
 unfold sgn;by_cases h1:n<1
 ·simp only[h1,cz];by_cases h2:n<0
  ·rw[al (by omega),bd h2]
  rw[bd (by omega),al h2,al (by omega)];omega
 simp only[h1,bn];rw[bd (by decide),al (by omega),bd (by omega)]
theorem aoa(a:Sp):G3 a=(decide ((if a.2>a.1 then a.2 else a.1)≤500)&&decide ((if a.2<a.1 then a.2 else a.1)≥-500)):=by
 unfold G3;rw[Td];simp only[da,decide_eq_true_eq];constructor
 ·rintro⟨h1,h2,h3,h4⟩;constructor<;>split<;>omega
 rintro⟨h1,h2⟩;split at h1<;>split at h2<;>omega
theorem az2(a b p:Sp):fj (lp b a) (lp p a)=j7 a b p:=rfl
section
variable{P:Program}(A:Pr P)
theorem ar3(a:Sp):iz P A.xq [yx a] (.bool (G3 a)):=by
 refine ec A.mo A.Ue (by simp) ?_;show kq P Cl (mb _ _) _;rw[aoa];by_cases h:(if a.2>a.1 then a.2 else a.1)≤500
 ·have h':=h;simp only[gt_iff_lt]at h';simp only[Cl,yx,go_sem,aa,de,ew,cq,ed,ey,ae,ah,reduceCtorEq,h']
 have h':=h;simp only[gt_iff_lt]at h';simp only[Cl,yx,go_sem,aa,de,ew,cq,ed,ey,ae,ah,reduceCtorEq,h',dz]
theorem Hm{a b:Sp}(ha:SmP a)(hb:SmP b):iz P A.fm [yx a,yx b] (yx (lp a b)):=by
 refine ec A.mo A.Uf (by simp) ?_;show kq P G9 (mb _ _) _;obtain⟨⟨a1,a2⟩,a3,a4⟩:=ha;obtain⟨⟨b1,b2⟩,b3,b4⟩:=hb;have w1:=dh (a.1-b.1) (by omega) (by omega);have w2:=dh (a.2-b.2) (by omega) (by omega);simp only[G9,yx,go_sem,aa,de,ew,ed,ey,ae,ah,reduceCtorEq,w1,w2,lp]
theorem Rb{u v:Sp}(hu:SmP u)(hv:SmP v):iz P A.jl [yx u,yx v] (.int ab (fj u v)):=by
 refine ec A.mo A.a3a (by simp) ?_;show kq P N4 (mb _ _) _;obtain⟨w1,w2,w3,_⟩:=cr2 hu hv;simp only[N4,yx,go_sem,aa,de,ew,ed,ey,ae,ah,reduceCtorEq,w1,w2,w3,fj]
theorem aAm{a b c:Sp}(ha:SmL a)(hb:SmL b)(hc:SmL c):iz P A.E9 [yx a,yx b,yx c] (.int ab (sgn (fj (lp b a) (lp c b)))):=by
 refine ec A.mo A.a6g (by simp) ?_;show kq P (Ol A.fm A.jl) (mb _ _) _;have h1:=Hm A hb.p ha.p;have h2:=Hm A hc.p hb.p;have h3:=Rb A (hb.sub ha) (hc.sub hb);simp only[yx,lp]at h1 h2 h3;simp only[Ol,yx,go_sem,aa,cq,ae];refine j5 h1 ?_;simp only[go_sem,aa,cq,ae];refine j5 h2 ?_;simp only[go_sem,aa,cq];refine j5 h3 ?_;simp only[go_sem,aa,cq,lp];rw[←aas]
theorem aAo{e:Ed}{p:Sp}(h1:SmL e.1)(h2:SmL e.2)(hp:SmL p):iz P A.vt [dEd e,yx p] (.bool (agc e p)):=by
 refine ec A.mo A.Tl (by simp) ?_;show kq P (Fl A.fm A.jl) (mb _ _) _;have k1:=Hm A h1.p hp.p;have k2:=Hm A h2.p hp.p;have k3:=Rb A (h1.sub hp) (h2.sub hp);have hs1:=h1.sub hp;have hs2:=h2.sub hp;simp only[yx,lp]at k1 k2 k3;simp only[Fl,dEd,yx,go_sem,aa,de,ae,ah];refine j5 k1 ?_;simp only[go_sem,aa,de,ew,ed,ey,ae];refine j5 k2 ?_;simp only[go_sem,aa,ae];refine j5 k3 ?_;unfold agc;simp only[lp];simp only[lp]at hs1 hs2;obtain⟨⟨a1,a2⟩,a3,a4⟩:=hs1;obtain⟨⟨b1,b2⟩,b3,b4⟩:=hs2;have m1:=a8q (x:=e.1.1-p.1) (y:=e.2.1-p.1) (by simp only at*;omega) (by simp only at*;omega);have m2:=a8q (x:=e.1.2-p.2) (y:=e.2.2-p.2) (by simp only at*;omega) (by simp only at*;omega);have w1:=dh ((e.1.1-p.1)*(e.2.1-p.1)) (by omega) (by omega);have w2:=dh ((e.1.2-p.2)*(e.2.2-p.2)) (by omega) (by omega);have w3:=dh ((e.1.1-p.1)*(e.2.1-p.1)+(e.1.2-p.2)*(e.2.2-p.2)) (by omega) (by omega);cases c:(fj (e.1.1-p.1,e.1.2-p.2) (e.2.1-p.1,e.2.2-p.2)==0)
 ·simp only[go_sem,aa,reduceCtorEq,c,dz]
 simp only[go_sem,aa,de,ew,ed,ey,ae,ah,reduceCtorEq,c,w1,w2,w3]
theorem abm{e:Ed}{p:Sp}(h1:SmL e.1)(h2:SmL e.2)(hp:SmL p):iz P A.qn [dEd e,yx p] (.int ab (sgn (j7 e.1 e.2 p))):=by
 refine ec A.mo A.O6 (by simp) ?_;show kq P (B5 A.fm A.jl) (mb _ _) _;have k1:=Hm A h2.p h1.p;have k2:=Hm A hp.p h1.p;have k3:=Rb A (h2.sub h1) (hp.sub h1);rw[az2]at k3;simp only[yx,lp]at k1 k2 k3;simp only[B5,dEd,yx,go_sem,aa,de,ew,cq,ed,ey,ae,ah];refine j5 k1 ?_;simp only[go_sem,aa,de,cq,ae,ah];refine j5 k2 ?_;simp only[go_sem,aa,cq];refine j5 k3 ?_;simp only[go_sem,aa,cq];rw[←aas]
theorem anl{e f:Ed}(h1:SmL e.1)(h2:SmL e.2)(h3:SmL f.1)(h4:SmL f.2):iz P A.sl [dEd e,dEd f] (.bool (Nn e f)):=by
 refine ec A.mo A.Ph (by simp) ?_;show kq P (Cb A.qn) (mb _ _) _;have k1:=abm A h1 h2 h3;have k2:=abm A h1 h2 h4;have k3:=abm A h3 h4 h1;have k4:=abm A h3 h4 h2;have b1:=abf (j7 e.1 e.2 f.1) (j7 e.1 e.2 f.2);have b2:=abf (j7 f.1 f.2 e.1) (j7 f.1 f.2 e.2);have w1:=dh _ (by omega) (by omega:sgn (j7 e.1 e.2 f.1)*sgn (j7 e.1 e.2 f.2)≤9223372036854775807);have w2:=dh _ (by omega) (by omega:sgn (j7 f.1 f.2 e.1)*sgn (j7 f.1 f.2 e.2)≤9223372036854775807);simp only[dEd,yx]at k1 k2 k3 k4;unfold Nn;simp only[Cb,dEd,go_sem,aa,de,ae,ah];refine P3 k1 ?_;simp only[go_sem,aa,de,ew,ed,ey,ae];refine P3 k2 ?_;by_cases c:sgn (j7 e.1 e.2 f.1)*sgn (j7 e.1 e.2 f.2)<0
 ·simp only[go_sem,aa,de,ae,ah,reduceCtorEq,w1,c];refine P3 k3 ?_;simp only[go_sem,aa,de,ew,ed,ey,ae];refine P3 k4 ?_;simp only[go_sem,aa,reduceCtorEq,w2]
 simp only[go_sem,aa,reduceCtorEq,w1,c,dz]
theorem aw7(a:Sp):iz P A.zo [yx a] (.bool !(G3 a)):=by
 refine ec A.mo A.a0k (by simp) ?_;show kq P (Lc A.xq) (mb _ _) _;have h:=ar3 A a;simp only[yx]at h;simp only[Lc,yx,go_sem,aa,ae];refine ft h ?_;simp only[go_sem,aa]
theorem an5{ls:List (List Sp)}(h2:∀l∈ls,l.length≤2^30):xg ls≤ls.length*2^30:=by
 unfold xg
 induction ls with
 |nil=>simp
 |cons l r ih=>
  have:=ih fun m hm=>h2 m (by simp[hm]);have:=h2 l (by simp);simp only[dr,aKr,cj];omega
theorem aw4(ls:List (List Sp))(h1:ls.length≤2^30)(h2:∀l∈ls,l.length≤2^30):iz P A.tp [.agg [ku ls]] (.int ab (xg ls)):=by
 refine ec A.mo A.Rm (by simp) ?_;show kq P Ds (mb _ _) _;simp only[Ds,ku,go_sem,aa,ag];refine fp ls.length (fun i s'=>s'.tmp 7= .d (.gz 1 (ls.map fun l=>[xf l]))∧s'.tmp 8= .d (.int ab ls.length)∧s'.tmp 9= .d (.int ab i)∧s'.tmp 3= .d (.int ab (xg (ls.take i)))) ?_ ?_
 ·simp only[go_sem,aa];simp[xg]
 rintro i s' hi ⟨f7,f8,f9,f3⟩;by_cases hlt:(i:Int)<ls.length
 ·have dq:i<ls.length:=by omega
  have wi:=dh ((i:Int)+1) (by omega) (by omega);have ht:=Pj dq
  have hgi:ls.getD i []=ls[i]:=by simp[cw,dq]
  rw[hgi]at ht;have hle:=an5 (ls:=ls.take i) fun l hl=>h2 l (Xr hl);have hl:=h2 _ (df dq)
  have hti:(ls.take i).length≤2^30:=by simp;omega
  have hb:xg (ls.take i)≤2^60:=ij hle (by have:=aK5 hti (ay (2^30));omega);have w:=dh ((xg (ls.take i):Int)+ls[i].length) (by omega) (by omega)
  have e:((xg (ls.take (i+1)):Nat):Int)=(xg (ls.take i):Int)+ls[i].length:=by rw[ht];omega
  simp only[go_sem,aa,reduceCtorEq,f7,f8,f9,f3,hlt,Fu dq,bp,ao,ag,w,wi,dq,e]
  try simp
 have:i=ls.length:=by omega
 subst this;rw[eh]at f3;simp only[go_sem,aa,reduceCtorEq,f8,f9,f3,hlt]
theorem ai8(ls:List (List Sp))(h1:ls.length≤2^30)(h2:(ig ls).length≤2^30):iz P A.pg [.agg [ku ls]] (Rt (ig ls)):=by
 have main:iz P A.pg [.agg [ku ls]] (C6 4 ((ig ls).map Dj)):=by
  refine ec A.mo A.Oz (by simp) ?_;show kq P Bw (mb _ _) _;simp only[Bw,ku,go_sem,aa,ag];refine fp ls.length (fun i s'=>s'.base=0∧s'.tmp 9= .d (.gz 1 (ls.map fun l=>[xf l]))∧s'.tmp 10= .d (.int ab ls.length)∧s'.tmp 11= .d (.int ab i)∧x9 s' 34 4 ((ig (ls.take i)).map Dj) (s'.tmp 3)) ?_ ?_
  ·simp only[go_sem,aa];exact x9.nil
  rintro i s' hi ⟨eb,f9,f10,f11,acc⟩;by_cases hlt:(i:Int)<ls.length
  ·have dq:i<ls.length:=by omega
   have wi:=dh ((i:Int)+1) (by omega) (by omega);have hgi:=Fu dq;simp only[go_sem,aa,reduceCtorEq,eb,f9,f10,f11,hlt,hgi,bp,ao,ag]
   refine fp ls[i].length (fun k s'=>s'.base=0∧s'.tmp 9= .d (.gz 1 (ls.map fun l=>[xf l]))∧s'.tmp 10= .d (.int ab ls.length)∧s'.tmp 11= .d (.int ab i)∧s'.tmp 5= .d (.gz 2 (ls[i].map C5))∧s'.tmp 15= .d (.gz 2 (ls[i].map C5))∧s'.tmp 16= .d (.int ab ls[i].length)∧s'.tmp 17= .d (.int ab k)∧
    x9 s' 34 4 ((ig (ls.take i)++(jg ls[i]).take k).map Dj) (s'.tmp 3)) ?_ ?_
   ·simp only[go_sem,aa,f9,f10,f11,sr];exact acc.mono rfl rfl
   clear eb f9 f10 f11 acc;rintro k s' hk ⟨eb,f9,f10,f11,f5,f15,f16,f17,acc⟩;by_cases Hf:(k:Int)<ls[i].length
   ·have rb:k<ls[i].length:=by omega
    have hle:=M0 dq (aKq rb)
    have hl1:ls[i].length≤2^30:=by
     have:=M0 dq (ay ls[i].length);simp only[db,er,xl]at this;omega
    have wk:=dh ((k:Int)+1) (by omega) (by omega);have hm:(k+1)%ls[i].length<ls[i].length:=a8a _ (by omega)
    have hm':(((k+1)%ls[i].length:Nat):Int)<ls[i].length:=by omega
    have hne:¬((ls[i].length:Nat):Int)=0:=by omega
    simp only[go_sem,aa,ae,ah,reduceCtorEq,di,eb,f5,f15,f16,f17,ag,Hf,bp,ao,Dl rb,Dl hm,wk,Zs,hne];refine uh (dm:=(ig (ls.take i)++(jg ls[i]).take k).map Dj) (ys:=[Dj (B8 ls[i] k)]) (osz:=some 4) ?_ ?_ rfl (by simp[Dj,D.one]) ?_ (by simp) ?_
    ·simp only[go_sem,aa];exact acc.mono (by simp[aj]) (by simp[aj])
    ·simp only[go_sem,aa,qh];rfl
    ·simp only[ag,cj,du];omega
    intro s2 g;simp only[go_sem,aa,reduceCtorEq,g.tmp,g.base,f9,f10,f11,f5,f15,f16,f17,wk,rb];refine⟨by simp,?_⟩;have ha:=g.acc (by simp);rw[g.tmp,cu]at ha;rw[Ov rb,←po];simp only[gd,fl,dr,gn]at ha⊢;exact ha.mono rfl rfl
   have hke:k=ls[i].length:=by omega
   simp only[go_sem,aa,reduceCtorEq,eb,f9,f10,f11,f16,f17,Hf,wi,dq];refine⟨by simp,?_⟩;rw[Xj dq];rw[hke,vl (l:=jg ls[i]) (by rw[xl];exact ay _)]at acc;exact acc.mono rfl rfl
  have:i=ls.length:=by omega
  subst this;rw[eh]at acc;simp only[go_sem,aa,reduceCtorEq,eb,f10,f11,hlt];rcases acc with ⟨a1,a2⟩|⟨a1,a2,a3⟩
  ·simp only[go_sem,a1,a2,C6]
  have he:PS.dm s' 34 (s'.av 34)=some (4,(ig ls).map Dj):=by unfold PS.dm;rw[bd rfl,a3]
  rw[C6,al a1,a2];simp only[go_sem,a3,ag]
 exact main.M8 Kj
end
def Ni(met:List Ed)(e:Ed):Bool:=met.any fun f=>a3m e f
def cM(e:Ed):D×C:=(.agg (Dj e),.d (.bool true))
theorem aua(e f:Ed):Ez (.row [.int,.int,.int,.int]) (.agg (Dj e)) (.agg (Dj f))=some (a3m e f):=by
 simp[Ez,Dj,Bc,Ow,a3m]
theorem a42(e:Ed)(met:List Ed):Hs (.row [.int,.int,.int,.int]) (.agg (Dj e)) (met.map cM)=some (if Ni met e then some (C.d (.bool true))else none):=by
 induction met with
 |nil=>rfl
 |cons f r ih=>
  simp only[dr]
  show(match Ez (.row [.int,.int,.int,.int]) (.agg (Dj e)) (.agg (Dj f))with|some true=>_|some false=>_|none=>_)=_
  rw[aua];unfold Ni at ih⊢;rw[aKs];cases a3m e f
  ·simp only[ih,Q2]
  simp
theorem as4(e:Ed)(met:List Ed)(h:Ni met e=false):Nh (.row [.int,.int,.int,.int]) (.agg (Dj e)) (C.d (.bool true)) (met.map cM)=some ((met++[e]).map cM):=by
 induction met with
 |nil=>rfl
 |cons f r ih=>
  simp only[dr,yv]
  show(match Ez (.row [.int,.int,.int,.int]) (.agg (Dj e)) (.agg (Dj f))with|some true=>_|some false=>_|none=>_)=_
  rw[aua];unfold Ni at h ih;rw[aKs,S0]at h;rw[h.1];simp only[ih h.2,ir];rfl
def abv(e:Ed):Ed:=(e.2,e.1)
def a4o(es:List Ed)(i:Nat):Bool:= !ux (es.getD i e0).1 (es.getD i e0).2&&(!Ni (es.take i) (es.getD i e0)&& !Ni (es.take i) (abv (es.getD i e0)))
def a1f(es:List Ed)(i k:Nat):Bool:= !agc (es.getD i e0) (es.getD k e0).1&& !(decide (k<i)&&Nn (es.getD i e0) (es.getD k e0))
def S3(es:List Ed):Bool:=(dt es.length).all (a4o es)&&(dt es.length).all fun i=>(dt es.length).all (a1f es i)
section
variable{P:Program}(A:Pr P)
theorem ar2(es:List Ed)(h1:es.length≤1000)(h2:∀e∈es,SmL e.1∧SmL e.2):iz P A.Bp [Rt es] (.bool (S3 es)):=by
 refine ec A.mo A.a0j (by simp) ?_;show kq P (Lb A.vt A.sl) (mb _ _) _;unfold S3;simp only[Lb,Rt,go_sem,aa,reduceCtorEq,ag];refine we (fun s'=>s'.base=0∧s'.tmp 0= .d (.gz 4 (es.map Dj))∧(dt es.length).all (a4o es)=true) ?_ ?_
 ·refine fp es.length (fun i s'=>s'.base=0∧s'.tmp 0= .d (.gz 4 (es.map Dj))∧s'.tmp 3= .l9 10 (s'.av 10)∧s'.mp 10=some ((es.take i).map cM)∧s'.tmp 11= .d (.gz 4 (es.map Dj))∧s'.tmp 12= .d (.int ab es.length)∧s'.tmp 13= .d (.int ab i)∧∀i',i'<i→a4o es i'=true) ?_ ?_
  ·simp only[go_sem,aa,reduceCtorEq];intro i' D0;omega
  rintro i s' hi ⟨eb,f0,f3,m3,f11,f12,f13,hI⟩;by_cases hlt:(i:Int)<es.length
  ·have dq:i<es.length:=by omega
   have wi:=dh ((i:Int)+1) (by omega) (by omega);have hg:=Dm dq
   have hge:es.getD i e0=es[i]:=by simp[cw,dq]
   have htk:es.take (i+1)=es.take i++[es.getD i e0]:=by rw[gl,hge];simp[dq]
   have Bs:a4o es i=(!ux (es.getD i e0).1 (es.getD i e0).2&&(!Ni (es.take i) (es.getD i e0)&& !Ni (es.take i) (abv (es.getD i e0)))):=rfl
   have no:a4o es i=false→((dt es.length).all (a4o es)&&(dt es.length).all fun i=>(dt es.length).all (a1f es i))=false:=fun h=>by rw[all_false dq h,dz]
   generalize es.getD i e0=e at*
   have l1:=a42 e (es.take i);have l2:=a42 (abv e) (es.take i);simp only[Dj,abv]at l1 l2;simp only[go_sem,aa,de,ew,ed,ey,ae,ah,reduceCtorEq,eb,f11,f12,f13,hlt,hg,bp,ao,Hj];cases c1:ux e.1 e.2
   ·have c1':=c1;unfold ux at c1';cases c2:Ni (es.take i) e
    ·cases c3:Ni (es.take i) (abv e)
     ·have c3':=c3;simp only[abv]at c3';have pd:=as4 e (es.take i) c2;simp only[Dj]at pd;simp only[go_sem,aa,de,ew,ed,ey,ae,ah,reduceCtorEq,f0,f3,m3,f11,f12,f13,c1',c2,c3',Cy,PS.ents,l1,l2,pd,wi,dq,htk];exact⟨by simp,qw hI (by rw[Bs,c1,c2,c3];rfl)⟩
     have c3':=c3;simp only[abv]at c3';simp only[go_sem,aa,de,ew,ed,ey,ae,ah,f3,m3,c1',c2,c3',Cy,PS.ents,l1,l2];rw[no (by rw[Bs,c3];simp)]
    simp only[go_sem,aa,ae,f3,m3,c1',c2,Cy,PS.ents,l1];rw[no (by rw[Bs,c2];simp)]
   have c1':=c1;unfold ux at c1';simp only[go_sem,aa,c1'];rw[no (by rw[Bs,c1];simp)]
  have:i=es.length:=by omega
  subst this;simp only[go_sem,reduceCtorEq,eb,f0,f12,f13,hlt];exact all_true hI
 rintro s' ⟨eb,f0,ha⟩;rw[ha,u9];simp only[go_sem,f0,ag];refine fp es.length (fun i s'=>s'.base=0∧s'.tmp 0= .d (.gz 4 (es.map Dj))∧s'.tmp 39= .d (.gz 4 (es.map Dj))∧s'.tmp 40= .d (.int ab es.length)∧s'.tmp 41= .d (.int ab i)∧∀i',i'<i→(dt es.length).all (a1f es i')=true) ?_ ?_
 ·simp only[go_sem,aa,reduceCtorEq,eb,f0]
  try simp
 clear eb f0;rintro i s' hi ⟨eb,f0,f39,f40,f41,hI⟩;by_cases hlt:(i:Int)<es.length
 ·have dq:i<es.length:=by omega
  have wi:=dh ((i:Int)+1) (by omega) (by omega);have hg:=Dm dq
  have hge:es.getD i e0=es[i]:=by simp[cw,dq]
  obtain⟨q1,q2⟩:=h2 _ (df dq);rw[←hge]at q1 q2;have no:∀k,k<es.length→a1f es i k=false→((dt es.length).all fun i=>(dt es.length).all (a1f es i))=false:=fun k hk h=>all_false dq (all_false hk h);have Bs:∀k,a1f es i k=(!agc (es.getD i e0) (es.getD k e0).1&& !(decide (k<i)&&Nn (es.getD i e0) (es.getD k e0))):=fun _=>rfl
  generalize es.getD i e0=e at*
  simp only[go_sem,aa,ae,reduceCtorEq,eb,f0,f39,f40,f41,hlt,hg,bp,ao,ag]
  refine fp es.length (fun k s'=>s'.base=0∧s'.tmp 0= .d (.gz 4 (es.map Dj))∧s'.tmp 39= .d (.gz 4 (es.map Dj))∧s'.tmp 40= .d (.int ab es.length)∧s'.tmp 41= .d (.int ab i)∧s'.tmp 6= .d (.int ab i)∧s'.tmp 7= .ie 7 (s'.av 7) 0∧s'.dc 7=some (.loc [.d (.int ab e.1.1),.d (.int ab e.1.2),.d (.int ab e.2.1),.d (.int ab e.2.2)])∧
   s'.tmp 46= .d (.gz 4 (es.map Dj))∧s'.tmp 47= .d (.int ab es.length)∧s'.tmp 48= .d (.int ab k)∧∀k',k'<k→a1f es i k'=true) ?_ ?_
  ·simp only[go_sem,aa,reduceCtorEq,f0,f39,f40,f41]
   try simp
  clear eb f0 f39 f40 f41;rintro k s' hk ⟨eb,f0,f39,f40,f41,f6,f7,b7,f46,f47,f48,hK⟩;by_cases Hf:(k:Int)<es.length
  ·have rb:k<es.length:=by omega
   have wk:=dh ((k:Int)+1) (by omega) (by omega);have hgk:=Dm rb
   have aH7:es.getD k e0=es[k]:=by simp[cw,rb]
   obtain⟨p1,p2⟩:=h2 _ (df rb);rw[←aH7]at p1 p2;have nok:=no k rb;have ay9:=Bs k
   generalize es.getD k e0=f at*
   have ch:=aAo A q1 q2 p1;have cc:=anl A q1 q2 p1 p2;simp only[dEd,yx]at ch cc;simp only[go_sem,aa,de,ae,ah,reduceCtorEq,eb,f7,b7,f46,f47,f48,Hf,hgk,bp,ao];refine j5 ch ?_;cases c1:agc e f.1
   ·by_cases c2:(k:Int)<i
    ·have c2':k<i:=by omega
     simp only[go_sem,aa,ae,reduceCtorEq,f6,f7,b7,c2];refine j5 cc ?_;cases c3:Nn e f
     ·simp only[go_sem,aa,reduceCtorEq,f0,f39,f40,f41,f6,f7,b7,f46,f47,f48,wk,rb];exact⟨by simp,qw hK (by rw[ay9,c1,c3];simp)⟩
     simp only[go_sem,aa];rw[nok (by rw[ay9,c3,decide_eq_true c2'];simp)]
    have c2':¬k<i:=by omega
    simp only[go_sem,aa,reduceCtorEq,f0,f39,f40,f41,f6,f7,b7,f46,f47,f48,c2,wk,rb];exact⟨by simp,qw hK (by rw[ay9,c1,decide_eq_false c2'];simp)⟩
   simp only[go_sem,aa];rw[nok (by rw[ay9,c1];simp)]
  have:k=es.length:=by omega
  subst this;simp only[go_sem,aa,reduceCtorEq,eb,f0,f39,f40,f41,f47,f48,Hf,wi,dq];exact⟨by simp,qw hI (all_true hK)⟩
 have:i=es.length:=by omega
 subst this;simp only[go_sem,aa,reduceCtorEq,eb,f40,f41,hlt];rw[all_true hI]
end
def vw(sw:Bool)(p:Sp):Sp:=if sw then(p.2,p.1)else p
def seen(sw:Bool)(m p:Sp):Sp:=(2*(vw sw p).1-(vw sw m).1,2*(vw sw p).2-(vw sw m).2)
def a2q(sw:Bool)(m:Sp)(f:Ed):Int:=
 if decide (0<(seen sw m f.1).2)==decide (0<(seen sw m f.2).2)then 0
 else if decide (0<fj (seen sw m f.1) (seen sw m f.2))==decide ((seen sw m f.1).2<(seen sw m f.2).2)then(if(seen sw m f.1).2<(seen sw m f.2).2 then 1 else-1)else 0
def swE(e:Ed):Bool:=e.1.2==e.2.2
def wAt(es:List Ed)(i k:Nat):Int:=if k=i then 0 else a2q (swE (es.getD i e0)) (ui (es.getD i e0)) (es.getD k e0)
def Ys(es:List Ed)(i:Nat):Int:=
 (if swE (es.getD i e0)then-(pq (wAt es i) es.length)else pq (wAt es i) es.length)+
  (if decide ((vw (swE (es.getD i e0)) (es.getD i e0).1).2<(vw (swE (es.getD i e0)) (es.getD i e0).2).2)== !swE (es.getD i e0)then 1 else 0)
def Sy(es:List Ed):Bool:=(dt es.length).all fun i=>Ys es i==1
theorem aAg(sw:Bool)(m:Sp)(f:Ed): -1≤a2q sw m f∧a2q sw m f≤1:=by unfold a2q;split<;>(try split)<;>(try split)<;>omega
theorem aDa(es:List Ed)(i k:Nat): -1≤wAt es i k∧wAt es i k≤1:=by
 unfold wAt;split
 ·omega
 exact aAg _ _ _
def Rk(v:Sp):Int:=if decide (0<v.2)||(v.2==0&&decide (0<v.1))then 0 else 1
def yz(u v:Sp):Int:=if Rk u=Rk v then-(fj u v)else Rk u-Rk v
theorem am5(v:Sp):Rk v=0∨Rk v=1:=by unfold Rk;split<;>simp
theorem aui{u v:Sp}(hu:SmP u)(hv:SmP v): -800000000≤fj u v∧fj u v≤800000000:=by
 obtain⟨⟨a1,a2⟩,a3,a4⟩:=hu;obtain⟨⟨b1,b2⟩,b3,b4⟩:=hv;have m1:=a8q (x:=u.1) (y:=v.2) (by omega) (by omega);have m2:=a8q (x:=u.2) (y:=v.1) (by omega) (by omega);unfold fj;omega
section
variable{P:Program}(A:Pr P)
theorem ar9(v:Sp):iz P A.Bz [yx v] (.int ab (Rk v)):=by
 refine ec A.mo A.a6i (by simp) ?_;show kq P Dr (mb _ _) _;unfold Rk;by_cases h1:0<v.2
 ·simp only[Dr,yx,go_sem,aa,de,ew,ed,ey,ae,reduceCtorEq,h1,M6]
 cases h2:v.2==0
 ·simp only[Dr,yx,go_sem,aa,de,ew,ed,ey,ae,reduceCtorEq,h1,h2,dz,W6]
 by_cases h3:0<v.1
 ·simp only[Dr,yx,go_sem,aa,de,ew,ed,ey,ae,ah,reduceCtorEq,h1,h2,h3,aJu]
 simp only[Dr,yx,go_sem,aa,de,ew,ed,ey,ae,ah,reduceCtorEq,h1,h2,h3,W6]
theorem aln{u v:Sp}(hu:SmP u)(hv:SmP v):iz P A.uc [yx u,yx v] (.int ab (yz u v)):=by
 refine ec A.mo A.a3b (by simp) ?_;show kq P (N5 A.Bz A.jl) (mb _ _) _;have h1:=ar9 A u;have h2:=ar9 A v;have h3:=Rb A hu hv;have hb:=aui hu hv;have w1:=dh (0-fj u v) (by omega) (by omega)
 have e1:(0:Int)-fj u v= -(fj u v):=by omega
 rw[e1]at w1;simp only[yx]at h1 h2 h3;unfold yz;simp only[N5,yx,go_sem,aa,ae];refine ft h1 ?_;simp only[go_sem,aa,ae];refine ft h2 ?_;rcases am5 u with a|a<;>rcases am5 v with b|b
 ·simp only[go_sem,aa,aK1,ae,reduceCtorEq,a,b,bne_self_eq_false];refine j5 h3 ?_;simp only[go_sem,aa,w1,e1]
 ·have:((0:Int) !=1)=true:=rfl;have w:=dh ((0:Int)-1) (by omega) (by omega);simp only[go_sem,aa,aK1,Int.reduceEq,cq,reduceCtorEq,a,b,this]
  try rfl
 ·have:((1:Int) !=0)=true:=rfl;simp only[go_sem,aa,aK1,Int.reduceEq,reduceCtorEq,a,b,this]
  try rfl
 simp only[go_sem,aa,aK1,ae,reduceCtorEq,a,b,bne_self_eq_false];refine j5 h3 ?_;simp only[go_sem,aa,w1,e1]
def R0(es:List Ed)(i:Nat)(e:Ed)(sw:Bool)(s':PS):Prop:=
 s'.base=0∧s'.tmp 0= .d (.gz 4 (es.map Dj))∧s'.tmp 3= .d (.int ab i)∧s'.tmp 4= .ie 4 (s'.av 4) 0∧s'.dc 4=some (.loc [.d (.int ab e.1.1),.d (.int ab e.1.2),.d (.int ab e.2.1),.d (.int ab e.2.2)])∧
 s'.tmp 5= .ie 5 (s'.av 5) 0∧s'.dc 5=some (.loc [.d (.int ab (e.1.1+e.2.1)),.d (.int ab (e.1.2+e.2.2))])∧s'.tmp 6= .d (.int ab (if sw then 1 else 0))∧s'.tmp 7= .d (.int ab (if sw then 0 else 1))∧
 s'.tmp 16= .d (.gz 4 (es.map Dj))∧s'.tmp 17= .d (.int ab es.length)∧s'.tmp 18= .d (.int ab i)
def akz(f:Nat):dn:=
 (.seq (
           (.block 3 (
            (.seq (
            .region [⟨some 49,.ji (.t 47),none,[]⟩,
             ⟨some 50,.xm 4 (.t 45) (.t 47),none,[]⟩,
             ⟨some 51,.load 4 true (.t 50),none,[]⟩,
             ⟨some 10,.alloc [(.int ab 0),(.int ab 0),(.int ab 0),(.int ab 0)],none,[]⟩,
             ⟨some 9,.ji (.t 49),none,[]⟩,
             ⟨none,.store 4 (.t 10) (.t 51),none,[]⟩] false []) (
            (.seq (
             .region [⟨some 52,.ji (.t 6),none,[]⟩,
              ⟨some 53,.xe 2 2 (.t 10) (.c (.int ab 0)),none,[]⟩,
              ⟨some 54,.xe 2 1 (.t 53) (.t 52),none,[]⟩,
              ⟨some 55,.load 1 false (.t 54),none,[]⟩,
              ⟨some 56,.bin .mul (.c (.int ab 2)) (.t 55),none,[]⟩,
              ⟨some 57,.ji (.t 6),none,[]⟩,
              ⟨some 58,.xe 2 1 (.t 5) (.t 57),none,[]⟩,
              ⟨some 59,.load 1 false (.t 58),none,[]⟩,
              ⟨some 60,.bin .sub (.t 56) (.t 59),none,[]⟩,
              ⟨some 61,.ji (.t 7),none,[]⟩,
              ⟨some 62,.xe 2 2 (.t 10) (.c (.int ab 0)),none,[]⟩,
              ⟨some 63,.xe 2 1 (.t 62) (.t 61),none,[]⟩,
              ⟨some 64,.load 1 false (.t 63),none,[]⟩,
              ⟨some 65,.bin .mul (.c (.int ab 2)) (.t 64),none,[]⟩,
              ⟨some 66,.ji (.t 7),none,[]⟩,
              ⟨some 67,.xe 2 1 (.t 5) (.t 66),none,[]⟩,
              ⟨some 68,.load 1 false (.t 67),none,[]⟩,
              ⟨some 69,.bin .sub (.t 65) (.t 68),none,[]⟩,
              ⟨some 70,.build [(.int ab 0),(.int ab 0)] [(0,1,(.t 60)),(1,1,(.t 69))],none,[]⟩,
              ⟨some 71,.ji (.t 6),none,[]⟩,
              ⟨some 72,.xe 2 2 (.t 10) (.c (.int ab 1)),none,[]⟩,
              ⟨some 73,.xe 2 1 (.t 72) (.t 71),none,[]⟩,
              ⟨some 74,.load 1 false (.t 73),none,[]⟩,
              ⟨some 75,.bin .mul (.c (.int ab 2)) (.t 74),none,[]⟩,
              ⟨some 76,.ji (.t 6),none,[]⟩,
              ⟨some 77,.xe 2 1 (.t 5) (.t 76),none,[]⟩,
              ⟨some 78,.load 1 false (.t 77),none,[]⟩,
              ⟨some 79,.bin .sub (.t 75) (.t 78),none,[]⟩,
              ⟨some 80,.ji (.t 7),none,[]⟩,
              ⟨some 81,.xe 2 2 (.t 10) (.c (.int ab 1)),none,[]⟩,
              ⟨some 82,.xe 2 1 (.t 81) (.t 80),none,[]⟩,
              ⟨some 83,.load 1 false (.t 82),none,[]⟩,
              ⟨some 84,.bin .mul (.c (.int ab 2)) (.t 83),none,[]⟩,
              ⟨some 85,.ji (.t 7),none,[]⟩,
              ⟨some 86,.xe 2 1 (.t 5) (.t 85),none,[]⟩,
              ⟨some 87,.load 1 false (.t 86),none,[]⟩,
              ⟨some 88,.bin .sub (.t 84) (.t 87),none,[]⟩,
              ⟨some 89,.build [(.int ab 0),(.int ab 0)] [(0,1,(.t 79)),(1,1,(.t 88))],none,[]⟩,
              ⟨some 11,.A9 2,none,[]⟩,
              ⟨some 12,.A9 2,none,[]⟩,
              ⟨none,.init 11 2 (.t 70),none,[]⟩,
              ⟨none,.init 12 2 (.t 89),none,[]⟩] true []) (
             (.seq (
             (.seq (
              .region [⟨some 90,.ji (.t 9),none,[]⟩,
               ⟨some 91,.ji (.t 3),none,[]⟩,
               ⟨some 92,.bin .eql (.t 90) (.t 91),none,[]⟩,
               ⟨some 93,.ji (.t 92),none,[]⟩,
               ⟨some 94,.xe 2 1 (.t 11) (.c (.int ab 1)),some (93,false),[]⟩,
               ⟨some 95,.load 1 false (.t 94),some (93,false),[]⟩,
               ⟨some 96,.bin .gtr (.t 95) (.c (.int ab 0)),some (93,false),[]⟩,
               ⟨some 97,.xe 2 1 (.t 12) (.c (.int ab 1)),some (93,false),[]⟩,
               ⟨some 98,.load 1 false (.t 97),some (93,false),[]⟩,
               ⟨some 99,.bin .gtr (.t 98) (.c (.int ab 0)),some (93,false),[]⟩,
               ⟨some 100,.beq false (.t 96) (.t 99),some (93,false),[]⟩,
               ⟨some 101,.pick (.t 93) (.c (.bool true)) (.t 100),none,[]⟩] false []) (
              (.cond (.t 101) (
              .exit 3) (
              .skip))))) (
             (.seq (
              .region [⟨some 102,.xe 2 1 (.t 12) (.c (.int ab 1)),none,[]⟩,
               ⟨some 103,.load 1 false (.t 102),none,[]⟩,
               ⟨some 104,.xe 2 1 (.t 11) (.c (.int ab 1)),none,[]⟩,
               ⟨some 105,.load 1 false (.t 104),none,[]⟩,
               ⟨some 106,.bin .gtr (.t 103) (.t 105),none,[]⟩,
               ⟨some 13,.ji (.t 106),none,[]⟩] false []) (
              (.seq (
              .region [⟨some 107,.load 2 true (.t 11),none,[]⟩,
               ⟨some 108,.load 2 true (.t 12),none,[]⟩,
               ⟨some 109,.call f [(.t 107),(.t 108)],none,[]⟩,
               ⟨some 110,.bin .gtr (.t 109) (.c (.int ab 0)),none,[]⟩,
               ⟨some 111,.ji (.t 13),none,[]⟩,
               ⟨some 112,.beq false (.t 110) (.t 111),none,[]⟩] false []) (
              (.cond (.t 112) (
               (.seq (
               .region [⟨some 113,.ji (.t 13),none,[]⟩] false []) (
               (.cond (.t 113) (
                .region [⟨some 114,.ji (.t 8),none,[]⟩,
                 ⟨some 115,.bin .add (.t 114) (.c (.int ab 1)),none,[]⟩,
                 ⟨some 8,.ji (.t 115),none,[]⟩] false []) (
                .region [⟨some 116,.ji (.t 8),none,[]⟩,
                 ⟨some 117,.bin .sub (.t 116) (.c (.int ab 1)),none,[]⟩,
                 ⟨some 8,.ji (.t 117),none,[]⟩] false []))))) (
               .skip))))))))))))))) (
           .region [⟨some 118,.bin .add (.t 47) (.c (.int ab 1)),none,[]⟩,
            ⟨some 47,.ji (.t 118),none,[]⟩] false []))
theorem aww{es:List Ed}{i k:Nat}{e f:Ed}{sw:Bool}{n:Int}(hk:k<es.length)(hf:es.getD k e0=f)(hi:i≤1000)(hk2:k≤1000)(he:al5 e)(hfs:al5 f)(hn: -2000≤n∧n≤2000){s':PS}{Q:Exit→PS→Prop}
  (h:R0 es i e sw s')(f45:s'.tmp 45= .d (.gz 4 (es.map Dj)))(f46:s'.tmp 46= .d (.int ab es.length))(f47:s'.tmp 47= .d (.int ab k))(f8:s'.tmp 8= .d (.int ab n))
  (hQ:∀s3,R0 es i e sw s3→s3.tmp 45= .d (.gz 4 (es.map Dj))→s3.tmp 46= .d (.int ab es.length)→s3.tmp 47= .d (.int ab (k+1:Nat))→s3.tmp 8= .d (.int ab (n+if k=i then 0 else a2q sw (ui e) f))→Q .normal s3):
  kq P (akz A.jl) Q s':=by
 unfold akz;obtain⟨eb,f0,f3,f4,b4,f5,b5,f6,f7,f16,f17,f18⟩:=h;obtain⟨⟨a1,a2⟩,⟨a3,a4⟩,⟨a5,a6⟩,a7,a8⟩:=he;obtain⟨⟨d1,d2⟩,⟨d3,d4⟩,⟨d5,d6⟩,d7,d8⟩:=hfs
 have hlt:(k:Int)<es.length:=by omega
 have hg:=Dm hk;rw[hf]at hg;have wk:=dh ((k:Int)+1) (by omega) (by omega);have x1:=dh (2*f.1.1) (by omega) (by omega);have x2:=dh (2*f.1.2) (by omega) (by omega);have x3:=dh (2*f.2.1) (by omega) (by omega);have x4:=dh (2*f.2.2) (by omega) (by omega);have y1:=dh (2*f.1.1-(e.1.1+e.2.1)) (by omega) (by omega);have y2:=dh (2*f.1.2-(e.1.2+e.2.2)) (by omega) (by omega);have y3:=dh (2*f.2.1-(e.1.1+e.2.1)) (by omega) (by omega);have y4:=dh (2*f.2.2-(e.1.2+e.2.2)) (by omega) (by omega);have z1:=dh (n+1) (by omega) (by omega);have z2:=dh (n-1) (by omega) (by omega);have fin:∀(s3:PS) (x:Int),R0 es i e sw s3→s3.tmp 45= .d (.gz 4 (es.map Dj))→s3.tmp 46= .d (.int ab es.length)→s3.tmp 47= .d (.int ab ((k:Int)+1))→s3.tmp 8= .d (.int ab x)→x=n+(if k=i then 0 else a2q sw (ui e) f)→Q .normal s3:=fun s3 x h1 h2 h3 h4 h5 h6=>hQ s3 h1 h2 h3 (by simpa using h4) (by rw[←h6];exact h5);cases sw
 ·have hc:=Rb A (u:=(2*f.1.1-(e.1.1+e.2.1),2*f.1.2-(e.1.2+e.2.2))) (v:=(2*f.2.1-(e.1.1+e.2.1),2*f.2.2-(e.1.2+e.2.2))) ⟨⟨by simp only;omega,by simp only;omega⟩,by simp only;omega,by simp only;omega⟩ ⟨⟨by simp only;omega,by simp only;omega⟩,by simp only;omega,by simp only;omega⟩
  have hw:a2q false (ui e) f=if decide (0<2*f.1.2-(e.1.2+e.2.2))==decide (0<2*f.2.2-(e.1.2+e.2.2))then 0 else if decide (0<fj (2*f.1.1-(e.1.1+e.2.1),2*f.1.2-(e.1.2+e.2.2)) (2*f.2.1-(e.1.1+e.2.1),2*f.2.2-(e.1.2+e.2.2)))==decide (2*f.1.2-(e.1.2+e.2.2)<2*f.2.2-(e.1.2+e.2.2))then(if 2*f.1.2-(e.1.2+e.2.2)<2*f.2.2-(e.1.2+e.2.2)then 1 else-1)else 0:=rfl
  rw[hw]at fin;generalize fj (2*f.1.1-(e.1.1+e.2.1),2*f.1.2-(e.1.2+e.2.2)) (2*f.2.1-(e.1.1+e.2.1),2*f.2.2-(e.1.2+e.2.2))=cr at hc fin;simp only[yx]at hc
  generalize hp1:2*f.1.1-(e.1.1+e.2.1)=p1 at*
  generalize hp2:2*f.1.2-(e.1.2+e.2.2)=p2 at*
  generalize hp3:2*f.2.1-(e.1.1+e.2.1)=p3 at*
  generalize hp4:2*f.2.2-(e.1.2+e.2.2)=p4 at*
  simp only[reduceIte,fw]at f6 f7;by_cases c0:k=i
  ·subst c0;simp only[go_sem,aa,de,ew,ed,ey,ae,ah,reduceCtorEq,eb,f3,f5,b5,f6,f7,f45,f47,hg,bp,ao,x1,x2,x3,x4,y1,y2,y3,y4,hp1,hp2,hp3,hp4,fg,wk];refine fin _ n ?_ ?_ ?_ ?_ ?_ ?_
   all_goals first|(simp only[R0,go_sem,aa,cq,reduceCtorEq,f0,f3,f4,b4,f5,b5,f6,f7,f8,f16,f17,f18,f45,f46,f47];done)|simp
  have c0':((k:Int)==i)=false:=by simp;omega
  rw[al c0]at fin;cases c1:(decide (0<p2)==decide (0<p4))
  ·cases c2:(decide (0<cr)==decide (p2<p4))
   ·simp only[go_sem,aa,de,ew,ed,ey,ae,ah,reduceCtorEq,eb,f3,f5,b5,f6,f7,f45,f47,hg,bp,ao,x1,x2,x3,x4,y1,y2,y3,y4,hp1,hp2,hp3,hp4,c0',c1];refine j5 hc ?_;simp only[go_sem,aa,reduceCtorEq,f47,c2,wk];refine fin _ n ?_ ?_ ?_ ?_ ?_ ?_
    all_goals first|(simp only[R0,go_sem,aa,reduceCtorEq,f0,f3,f4,b4,f5,b5,f6,f7,f8,f16,f17,f18,f45,f46,f47];done)|simp[c1,c2]
   by_cases c3:p2<p4
   ·have c4:0<cr:=by simpa[c3]using c2
    simp only[go_sem,aa,de,ew,ed,ey,ae,ah,reduceCtorEq,eb,f3,f5,b5,f6,f7,f45,f47,hg,bp,ao,x1,x2,x3,x4,y1,y2,y3,y4,hp1,hp2,hp3,hp4,c0',c1];refine j5 hc ?_;simp only[go_sem,aa,reduceCtorEq,f8,f47,c3,c4,fg,wk,z1];refine fin _ (n+1) ?_ ?_ ?_ ?_ ?_ ?_
    all_goals first|(simp only[R0,go_sem,aa,reduceCtorEq,f0,f3,f4,b4,f5,b5,f6,f7,f8,f16,f17,f18,f45,f46,f47];done)|simp[c1,c3,c4]
   have c4:¬0<cr:=by simpa[c3]using c2
   simp only[go_sem,aa,de,ew,ed,ey,ae,ah,reduceCtorEq,eb,f3,f5,b5,f6,f7,f45,f47,hg,bp,ao,x1,x2,x3,x4,y1,y2,y3,y4,hp1,hp2,hp3,hp4,c0',c1];refine j5 hc ?_;simp only[go_sem,aa,reduceCtorEq,f8,f47,c3,c4,fg,wk,z2];refine fin _ (n-1) ?_ ?_ ?_ ?_ ?_ ?_
   all_goals first|(simp only[R0,go_sem,aa,reduceCtorEq,f0,f3,f4,b4,f5,b5,f6,f7,f8,f16,f17,f18,f45,f46,f47];done)|(simp[c1,c3,c4];try omega)
  simp only[go_sem,aa,de,ew,ed,ey,ae,ah,reduceCtorEq,eb,f3,f5,b5,f6,f7,f45,f47,hg,bp,ao,x1,x2,x3,x4,y1,y2,y3,y4,hp1,hp2,hp3,hp4,c0',c1,wk];refine fin _ n ?_ ?_ ?_ ?_ ?_ ?_
  all_goals first|(simp only[R0,go_sem,aa,reduceCtorEq,f0,f3,f4,b4,f5,b5,f6,f7,f8,f16,f17,f18,f45,f46,f47];done)|simp[c1]
 have hc:=Rb A (u:=(2*f.1.2-(e.1.2+e.2.2),2*f.1.1-(e.1.1+e.2.1))) (v:=(2*f.2.2-(e.1.2+e.2.2),2*f.2.1-(e.1.1+e.2.1))) ⟨⟨by simp only;omega,by simp only;omega⟩,by simp only;omega,by simp only;omega⟩ ⟨⟨by simp only;omega,by simp only;omega⟩,by simp only;omega,by simp only;omega⟩
 have hw:a2q true (ui e) f=if decide (0<2*f.1.1-(e.1.1+e.2.1))==decide (0<2*f.2.1-(e.1.1+e.2.1))then 0 else if decide (0<fj (2*f.1.2-(e.1.2+e.2.2),2*f.1.1-(e.1.1+e.2.1)) (2*f.2.2-(e.1.2+e.2.2),2*f.2.1-(e.1.1+e.2.1)))==decide (2*f.1.1-(e.1.1+e.2.1)<2*f.2.1-(e.1.1+e.2.1))then(if 2*f.1.1-(e.1.1+e.2.1)<2*f.2.1-(e.1.1+e.2.1)then 1 else-1)else 0:=rfl
 rw[hw]at fin;generalize fj (2*f.1.2-(e.1.2+e.2.2),2*f.1.1-(e.1.1+e.2.1)) (2*f.2.2-(e.1.2+e.2.2),2*f.2.1-(e.1.1+e.2.1))=cr at hc fin;simp only[yx]at hc
 generalize hp1:2*f.1.2-(e.1.2+e.2.2)=p1 at*
 generalize hp2:2*f.1.1-(e.1.1+e.2.1)=p2 at*
 generalize hp3:2*f.2.2-(e.1.2+e.2.2)=p3 at*
 generalize hp4:2*f.2.1-(e.1.1+e.2.1)=p4 at*
 simp only[reduceIte]at f6 f7;by_cases c0:k=i
 ·subst c0;simp only[go_sem,aa,de,ew,ed,ey,ae,ah,reduceCtorEq,eb,f3,f5,b5,f6,f7,f45,f47,hg,bp,ao,x1,x2,x3,x4,y1,y2,y3,y4,hp1,hp2,hp3,hp4,fg,wk];refine fin _ n ?_ ?_ ?_ ?_ ?_ ?_
  all_goals first|(simp only[R0,go_sem,aa,cq,reduceCtorEq,f0,f3,f4,b4,f5,b5,f6,f7,f8,f16,f17,f18,f45,f46,f47];done)|simp
 have c0':((k:Int)==i)=false:=by simp;omega
 rw[al c0]at fin;cases c1:(decide (0<p2)==decide (0<p4))
 ·cases c2:(decide (0<cr)==decide (p2<p4))
  ·simp only[go_sem,aa,de,ew,ed,ey,ae,ah,reduceCtorEq,eb,f3,f5,b5,f6,f7,f45,f47,hg,bp,ao,x1,x2,x3,x4,y1,y2,y3,y4,hp1,hp2,hp3,hp4,c0',c1];refine j5 hc ?_;simp only[go_sem,aa,reduceCtorEq,f47,c2,wk];refine fin _ n ?_ ?_ ?_ ?_ ?_ ?_
   all_goals first|(simp only[R0,go_sem,aa,reduceCtorEq,f0,f3,f4,b4,f5,b5,f6,f7,f8,f16,f17,f18,f45,f46,f47];done)|simp[c1,c2]
  by_cases c3:p2<p4
  ·have c4:0<cr:=by simpa[c3]using c2
   simp only[go_sem,aa,de,ew,ed,ey,ae,ah,reduceCtorEq,eb,f3,f5,b5,f6,f7,f45,f47,hg,bp,ao,x1,x2,x3,x4,y1,y2,y3,y4,hp1,hp2,hp3,hp4,c0',c1];refine j5 hc ?_;simp only[go_sem,aa,reduceCtorEq,f8,f47,c3,c4,fg,wk,z1];refine fin _ (n+1) ?_ ?_ ?_ ?_ ?_ ?_
   all_goals first|(simp only[R0,go_sem,aa,reduceCtorEq,f0,f3,f4,b4,f5,b5,f6,f7,f8,f16,f17,f18,f45,f46,f47];done)|simp[c1,c3,c4]
  have c4:¬0<cr:=by simpa[c3]using c2
  simp only[go_sem,aa,de,ew,ed,ey,ae,ah,reduceCtorEq,eb,f3,f5,b5,f6,f7,f45,f47,hg,bp,ao,x1,x2,x3,x4,y1,y2,y3,y4,hp1,hp2,hp3,hp4,c0',c1];refine j5 hc ?_;simp only[go_sem,aa,reduceCtorEq,f8,f47,c3,c4,fg,wk,z2];refine fin _ (n-1) ?_ ?_ ?_ ?_ ?_ ?_
  all_goals first|(simp only[R0,go_sem,aa,reduceCtorEq,f0,f3,f4,b4,f5,b5,f6,f7,f8,f16,f17,f18,f45,f46,f47];done)|(simp[c1,c3,c4];try omega)
 simp only[go_sem,aa,de,ew,ed,ey,ae,ah,reduceCtorEq,eb,f3,f5,b5,f6,f7,f45,f47,hg,bp,ao,x1,x2,x3,x4,y1,y2,y3,y4,hp1,hp2,hp3,hp4,c0',c1,wk];refine fin _ n ?_ ?_ ?_ ?_ ?_ ?_
 all_goals first|(simp only[R0,go_sem,aa,reduceCtorEq,f0,f3,f4,b4,f5,b5,f6,f7,f8,f16,f17,f18,f45,f46,f47];done)|simp[c1]
end
theorem ahx(f:Nat→Int)(k:Nat):pq f (k+1)=pq f k+f k:=rfl
section
variable{P:Program}(A:Pr P)
theorem arc(es:List Ed)(h1:es.length≤1000)(h2:∀e∈es,SmL e.1∧SmL e.2):iz P A.Bq [Rt es] (.bool (Sy es)):=by
 refine ec A.mo A.a0l (by simp) ?_;show kq P (Ld A.jl) (mb _ _) _;unfold Sy;simp only[Ld,Rt,go_sem,aa,reduceCtorEq,ag];refine fp es.length (fun i s'=>s'.base=0∧s'.tmp 0= .d (.gz 4 (es.map Dj))∧s'.tmp 16= .d (.gz 4 (es.map Dj))∧s'.tmp 17= .d (.int ab es.length)∧s'.tmp 18= .d (.int ab i)∧∀i',i'<i→(Ys es i'==1)=true) ?_ ?_
 ·simp only[go_sem,aa,reduceCtorEq];intro i' D0;omega
 rintro i s' hi ⟨eb,f0,f16,f17,f18,hI⟩;by_cases hlt:(i:Int)<es.length
 ·have dq:i<es.length:=by omega
  have wi:=dh ((i:Int)+1) (by omega) (by omega);have hg:=Dm dq
  have hge:es.getD i e0=es[i]:=by simp[cw,dq]
  obtain⟨⟨q1,q2⟩,q3,q4⟩:=h2 _ (df dq);rw[←hge]at q1 q2 q3 q4;have no:(Ys es i==1)=false→((dt es.length).all fun i=>Ys es i==1)=false:=fun h=>all_false dq h;have hwb:∀k:Nat,-(k:Int)≤pq (wAt es i) k∧pq (wAt es i) k≤k:=ab9 (aDa es i)
  have hL:Ys es i=(if swE (es.getD i e0)then-(pq (wAt es i) es.length)else pq (wAt es i) es.length)+
   (if decide ((vw (swE (es.getD i e0)) (es.getD i e0).1).2<(vw (swE (es.getD i e0)) (es.getD i e0).2).2)== !swE (es.getD i e0)then 1 else 0):=rfl
  have hwa:∀k,wAt es i k=if k=i then 0 else a2q (swE (es.getD i e0)) (ui (es.getD i e0)) (es.getD k e0):=fun _=>rfl
  have hes:∀k,k<es.length→al5 (es.getD k e0):=fun k hk=>by
   have e:es.getD k e0=es[k]:=by simp[cw,hk]
   rw[e];obtain⟨⟨a,b⟩,c,d⟩:=h2 _ (df hk);exact⟨a,b,c,d⟩
  have hse:=hes i dq
  generalize es.getD i e0=e at*
  obtain⟨⟨a1,a2⟩,⟨a3,a4⟩,⟨a5,a6⟩,a7,a8⟩:=id hse;have w1:=dh (e.1.1+e.2.1) (by omega) (by omega);have w2:=dh (e.1.2+e.2.2) (by omega) (by omega);have hsw:swE e=(e.1.2==e.2.2):=rfl
  have rounds:∀(s':PS) (Q:Exit→PS→Prop),R0 es i e (swE e) s'→s'.tmp 45= .d (.gz 4 (es.map Dj))→s'.tmp 46= .d (.int ab es.length)→s'.tmp 47= .d (.int ab 0)→s'.tmp 8= .d (.int ab 0)→
    (∀s3,R0 es i e (swE e) s3→s3.tmp 8= .d (.int ab (pq (wAt es i) es.length))→Q (.exit 2) s3)→
    kq P (.loop (
      (.seq (
      .region [⟨some 48,.bin .lss (.t 47) (.t 46),none,[]⟩] false []) (
      (.seq (
       (.cond (.t 48) (
       .skip) (
       .exit 2))) (
       akz A.jl
      )))))) Q s':=by
   intro s' Q hB g45 g46 g47 g8 hQ;refine fp es.length (fun k s3=>R0 es i e (swE e) s3∧s3.tmp 45= .d (.gz 4 (es.map Dj))∧s3.tmp 46= .d (.int ab es.length)∧s3.tmp 47= .d (.int ab k)∧s3.tmp 8= .d (.int ab (pq (wAt es i) k))) ⟨hB,g45,g46,by simpa using g47,by simpa[pq]using g8⟩ ?_;rintro k s2 hk ⟨hB2,k45,k46,k47,k8⟩
   have hBt:∀(s3:PS) (x:V),R0 es i e (swE e) s3→R0 es i e (swE e) {s3 with tmp:=l7 s3.tmp 48 x}:=by
    rintro s3 x ⟨eb,f0,f3,f4,b4,f5,b5,f6,f7,f16,f17,f18⟩;simp only[R0,go_sem,aa,reduceCtorEq,eb,f0,f3,f4,b4,f5,b5,f6,f7,f16,f17,f18]
   by_cases Hf:(k:Int)<es.length
   ·have rb:k<es.length:=by omega
    rw[ae2,Tx,afl];simp only[go_sem,reduceCtorEq,k46,k47,Hf];refine aww A rb rfl (by omega) (by omega) hse (hes k rb) (n:=pq (wAt es i) k) (by have:=hwb k;omega) (hBt s2 _ hB2) ?_ ?_ ?_ ?_ ?_
    ·simp only[go_sem,aa,k45]
    ·simp only[go_sem,aa,k46]
    ·simp only[go_sem,aa,k47]
    ·simp only[go_sem,aa,k8]
    intro s3 m1 m2 m3 m4 m5;rw[a6n];refine⟨rb,m1,m2,m3,m4,?_⟩;rw[m5,ahx,hwa]
   have:k=es.length:=by omega
   subst this;rw[ae2,Tx,afl];simp only[go_sem,reduceCtorEq,k46,k47,Hf];exact hQ _ (hBt s2 _ hB2) (by simp only[go_sem,aa,k8])
  have a2u:=hwb es.length
  generalize pq (wAt es i) es.length=n at*
  have fin:∀b:Bool,(Ys es i==1)=b→b=true→∀i',i'<i+1→(Ys es i'==1)=true:=fun b h1 h2=>qw hI (by rw[h1,h2]);cases c0:swE e
  ·have c0':=c0;rw[hsw]at c0';rw[c0]at hL rounds;simp only[fw,bn,M7,vw]at hL;simp only[go_sem,aa,de,ew,ed,ey,ae,ah,reduceCtorEq,eb,f0,f16,f17,f18,hlt,hg,bp,ao,ag,w1,w2,c0'];refine rounds _ _ ?_ ?_ ?_ ?_ ?_ ?_
   ·simp only[R0,go_sem,aa,reduceCtorEq,f0,f16,f17,f18]
   ·simp only[go_sem,aa]
   ·simp only[go_sem,aa]
   ·simp only[go_sem,aa]
   ·simp only[go_sem,aa]
   rintro s3 ⟨eb,g0,g3,g4,h4,g5,h5,g6,g7,g16,g17,g18⟩ g8;simp only[reduceIte,fw]at g6 g7;by_cases c1:e.1.2<e.2.2
   ·have wn:=dh (n+1) (by omega) (by omega);rw[decide_eq_true c1]at hL;simp only[fg,cz]at hL;cases c2:(n+1==1)
    ·have c2':(n+1 !=1)=true:=by unfold bne;rw[c2];rfl
     simp only[go_sem,aa,de,ew,ed,ey,ae,ah,reduceCtorEq,eb,g0,g4,h4,g6,g7,g8,g16,g17,g18,fg,c1,wn,c2',show((0:Int)==1)=false from rfl];rw[no (by rw[hL];exact c2)]
    have c2':(n+1 !=1)=false:=by unfold bne;rw[c2];rfl
    simp only[go_sem,aa,de,ew,ed,ey,ae,ah,reduceCtorEq,eb,g0,g4,h4,g6,g7,g8,g16,g17,g18,fg,c1,wn,c2',wi,dq,show((0:Int)==1)=false from rfl];exact⟨by simp,qw hI (by rw[hL];exact c2)⟩
   rw[decide_eq_false c1]at hL;simp only[show(false==true)=false from rfl,fw,bn,amz]at hL;cases c2:(n==1)
   ·have c2':(n !=1)=true:=by unfold bne;rw[c2];rfl
    simp only[go_sem,aa,de,ew,ed,ey,ae,ah,reduceCtorEq,eb,g0,g4,h4,g6,g7,g8,g16,g17,g18,fg,c1,c2',show((0:Int)==1)=false from rfl,show(false==true)=false from rfl];rw[no (by rw[hL];exact c2)]
   have c2':(n !=1)=false:=by unfold bne;rw[c2];rfl
   simp only[go_sem,aa,de,ew,ed,ey,ae,ah,reduceCtorEq,eb,g0,g4,h4,g6,g7,g8,g16,g17,g18,fg,c1,c2',wi,dq,show((0:Int)==1)=false from rfl,show(false==true)=false from rfl];exact⟨by simp,qw hI (by rw[hL];exact c2)⟩
  have c0':=c0;rw[hsw]at c0';rw[c0]at hL rounds;simp only[cz,aFr,vw]at hL;have wm:=dh (0-n) (by omega) (by omega)
  have em:(0:Int)-n= -n:=by omega
  rw[em]at wm;simp only[go_sem,aa,de,ew,ed,ey,ae,ah,reduceCtorEq,eb,f0,f16,f17,f18,hlt,hg,bp,ao,ag,w1,w2,c0'];refine rounds _ _ ?_ ?_ ?_ ?_ ?_ ?_
  ·simp only[R0,go_sem,aa,reduceCtorEq,f0,f16,f17,f18]
  ·simp only[go_sem,aa]
  ·simp only[go_sem,aa]
  ·simp only[go_sem,aa]
  ·simp only[go_sem,aa]
  rintro s3 ⟨eb,g0,g3,g4,h4,g5,h5,g6,g7,g16,g17,g18⟩ g8;simp only[reduceIte]at g6 g7;by_cases c1:e.1.1<e.2.1
  ·rw[decide_eq_true c1]at hL;simp only[show(true==false)=false from rfl,fw,bn,amz]at hL;cases c2:(-n==1)
   ·have c2':(-n !=1)=true:=by unfold bne;rw[c2];rfl
    simp only[go_sem,aa,de,ew,ed,ey,ae,ah,reduceCtorEq,eb,g0,g4,h4,g6,g7,g8,g16,g17,g18,fg,c1,c2',em,wm,show((1:Int)==0)=false from rfl,show(true==false)=false from rfl];rw[no (by rw[hL];exact c2)]
   have c2':(-n !=1)=false:=by unfold bne;rw[c2];rfl
   simp only[go_sem,aa,de,ew,ed,ey,ae,ah,reduceCtorEq,eb,g0,g4,h4,g6,g7,g8,g16,g17,g18,fg,c1,c2',em,wm,wi,dq,show((1:Int)==0)=false from rfl,show(true==false)=false from rfl];exact⟨by simp,qw hI (by rw[hL];exact c2)⟩
  have wn:=dh (-n+1) (by omega) (by omega);rw[decide_eq_false c1]at hL;simp only[fg,cz]at hL;cases c2:(-n+1==1)
  ·have c2':(-n+1 !=1)=true:=by unfold bne;rw[c2];rfl
   simp only[go_sem,aa,de,ew,ed,ey,ae,ah,reduceCtorEq,eb,g0,g4,h4,g6,g7,g8,g16,g17,g18,fg,c1,em,wm,wn,c2',show((1:Int)==0)=false from rfl];rw[no (by rw[hL];exact c2)]
  have c2':(-n+1 !=1)=false:=by unfold bne;rw[c2];rfl
  simp only[go_sem,aa,de,ew,ed,ey,ae,ah,reduceCtorEq,eb,g0,g4,h4,g6,g7,g8,g16,g17,g18,fg,c1,em,wm,wn,c2',wi,dq,show((1:Int)==0)=false from rfl];exact⟨by simp,qw hI (by rw[hL];exact c2)⟩
 have:i=es.length:=by omega
 subst this;simp only[go_sem,aa,reduceCtorEq,eb,f17,f18,hlt];rw[all_true hI]
end
abbrev Adj:=List (Sp×List Sp)
def u0(k v:Sp):Adj→Adj
 |[]=>[(k,[v])]
 |(a,l)::r=>if ux k a then(k,l++[v])::r else(a,l)::u0 k v r
def Cd(k:Sp):Adj→Option (List Sp)
 |[]=>none
 |(a,l)::r=>if ux k a then some l else Cd k r
def M4(k:Sp):Nat→Adj→Option (Nat×List Sp)
 |_,[]=>none
 |i,(a,l)::r=>if ux k a then some (i,l)else M4 k (i+1) r
def Bd(es:List Ed):Adj:=es.foldl (fun L e=>u0 e.1 e.2 L) []
def Ht(es:List Ed):Adj:=es.foldl (fun L e=>u0 e.2 e.1 L) []
def Ss(L:Adj):D:= .map (L.map fun p=>(yx p.1,xf p.2))
def ents(b:Nat)(av:Nat→Nat):Nat→Adj→List (D×C)
 |_,[]=>[]
 |i,(k,l)::r=>(yx k,.ref (b+2*i) (av (b+2*i)) l.length)::ents b av (i+1) r
theorem aqs(k a:Sp):Ez (.row [.int,.int]) (yx k) (yx a)=some (ux k a):=by
 simp[Ez,yx,Bc,Ow,ux]
theorem a5q{α:Type}(k a:Sp)(c:α)(r:List (D×α)):Hs (.row [.int,.int]) (yx k) ((yx a,c)::r)=if ux k a then some (some c)else Hs (.row [.int,.int]) (yx k) r:=by
 show(match Ez (.row [.int,.int]) (yx k) (yx a)with|some true=>_|some false=>_|none=>_)=_
 rw[aqs];cases ux k a<;>rfl
theorem a01{α:Type}(k a:Sp)(v c:α)(r:List (D×α)):Nh (.row [.int,.int]) (yx k) v ((yx a,c)::r)=if ux k a then some ((yx k,v)::r)else(Nh (.row [.int,.int]) (yx k) v r).map ((yx a,c):: ·):=by
 show(match Ez (.row [.int,.int]) (yx k) (yx a)with|some true=>_|some false=>_|none=>_)=_
 rw[aqs];cases ux k a<;>rfl
theorem aov(b:Nat)(av:Nat→Nat)(k:Sp):∀(L:Adj) (i:Nat),Hs (.row [.int,.int]) (yx k) (ents b av i L)=some ((M4 k i L).map fun p=> .ref (b+2*p.1) (av (b+2*p.1)) p.2.length):=by
 intro L
 induction L with
 |nil=>intro i;rfl
 |cons x r ih=>
  intro i;obtain⟨a,l⟩:=x;simp only[ents,M4,a5q];split
  ·rfl
  exact ih _
theorem apk(k v:Sp):∀(L:Adj) (i:Nat),M4 k i L=none→u0 k v L=L++[(k,[v])]:=by
 intro L
 induction L with
 |nil=>intro i _;rfl
 |cons x r ih=>
  intro i h;obtain⟨a,l⟩:=x;simp only[M4]at h;split at h
  ·cases h
  rename_i hn;simp only[u0,al hn,ih _ h,yv]
theorem awz(b:Nat)(av:Nat→Nat)(k:Sp)(c:C):∀(L:Adj) (i:Nat),M4 k i L=none→Nh (.row [.int,.int]) (yx k) c (ents b av i L)=some (ents b av i L++[(yx k,c)]):=by
 intro L
 induction L with
 |nil=>intro i _;rfl
 |cons x r ih=>
  intro i h;obtain⟨a,l⟩:=x;simp only[M4]at h;split at h
  ·cases h
  rename_i hn;simp only[ents,a01,al hn,ih _ h,ir,yv]
theorem awy(b:Nat)(av:Nat→Nat)(k v:Sp):∀(L:Adj) (i:Nat) (j:Nat) (l:List Sp),M4 k i L=some (j,l)→
  Nh (.row [.int,.int]) (yx k) (C.ref (b+2*j) (av (b+2*j)) (l.length+1)) (ents b av i L)=some (ents b av i (u0 k v L))∧
  i≤j∧(∃a,L[j-i]? =some (a,l)∧(u0 k v L)[j-i]? =some (k,l++[v]))∧(∀q,q≠j-i→(u0 k v L)[q]? =L[q]?)∧(u0 k v L).length=L.length:=by
 intro L
 induction L with
 |nil=>intro i j l h;cases h
 |cons x r ih=>
  intro i j l h;obtain⟨a,l'⟩:=x;simp only[M4]at h;split at h
  ·rename_i hy
   injection h with h
   injection h with h1 h2
   subst h1 h2;simp only[ents,a01,u0,bd hy,db,cj,du,Vm,dv];refine⟨trivial,ay _,⟨a,rfl,trivial⟩,fun q hq=>?_,trivial⟩
   cases q with
   |zero=>exact absurd rfl hq
   |succ q=>rfl
  rename_i hn;obtain⟨k1,k2,⟨a',k3,k4⟩,k5,k6⟩:=ih (i+1) j l h
  have e:j-i=(j-(i+1))+1:=by omega
  simp only[ents,a01,u0,al hn,k1,ir,cj,k6];rw[e];refine⟨trivial,by omega,⟨a',by simpa using k3,by simpa using k4⟩,fun q hq=>?_,trivial⟩
  cases q with
  |zero=>rfl
  |succ q=>simpa using k5 q (by omega)
theorem au1(b:Nat)(av:Nat→Nat)(k:Sp)(l:List Sp):∀(L:Adj) (i:Nat),ents b av i (L++[(k,l)])=ents b av i L++[(yx k,.ref (b+2*(i+L.length)) (av (b+2*(i+L.length))) l.length)]:=by
 intro L
 induction L with
 |nil=>intro i;rfl
 |cons x r ih=>
  intro i;obtain⟨a,l'⟩:=x
  have e:i+1+r.length=i+(r.length+1):=by omega
  simp only[yv,ents,ih,cj,e]
theorem a6v(b:Nat)(av a8e:Nat→Nat):∀(L:Adj) (i:Nat),(∀j,i≤j→j<i+L.length→a8e (b+2*j)=av (b+2*j))→ents b a8e i L=ents b av i L:=by
 intro L
 induction L with
 |nil=>intro i _;rfl
 |cons x r ih=>
  intro i h;obtain⟨a,l'⟩:=x;simp only[ents];rw[h i (ay _) (by simp),ih (i+1) fun j h1 h2=>h j (by omega) (by simp only[cj];omega)]
theorem agu(b:Nat)(av:Nat→Nat):∀(L:Adj) (i:Nat),(ents b av i L).length=L.length:=by
 intro L
 induction L with
 |nil=>intro i;rfl
 |cons x r ih=>intro i;obtain⟨a,l'⟩:=x;simp only[ents,cj,ih]
structure V0(s:PS)(m b:Nat)(L:Adj):Prop where
 mp:s.mp m=some (ents b s.av 0 L)
 dc:∀(j:Nat) (p:Sp×List Sp),L[j]? =some p→s.dc (b+2*j)=some (.arr 2 (p.2.map C5))
 free:∀j,L.length≤j→s.dc (b+2*j)=none∧s.mp (b+2*j)=none
theorem V0.frame{s s':PS}{m b:Nat}{L:Adj}(h:V0 s m b L)(h1:s'.mp m=s.mp m)(h2:∀j,s'.dc (b+2*j)=s.dc (b+2*j))(h3:∀j,s'.av (b+2*j)=s.av (b+2*j))(h4:∀j,s'.mp (b+2*j)=s.mp (b+2*j)):V0 s' m b L where
 mp:=by rw[h1,h.mp,a6v b s.av s'.av L 0 fun j _ _=>h3 j]
 dc j p hp:=by rw[h2];exact h.dc j p hp
 free j hj:=by rw[h2,h4];exact h.free j hj
theorem av8{s:PS}{m b:Nat}{L:Adj}(h:V0 s m b L)(hm:m<b)(hL:L.length<2^30)(hl:∀p∈L,p.2.length<2^30){x kd y:V}{k v:Sp}(hx:x= .l9 m (s.av m))(hk:kd= .d (yx k))(hy:qh s y=some ([C5 v],some 2))(ts:List Nat):
  ∃id s',am6 s id (.row [.int,.int]) 2 16 x kd y ts s'∧V0 s' m b (u0 k v L)∧s'.tmp=(fun t=>if t∈ts then .no else s.tmp t)∧(∀i,(∀j,i≠b+2*j)→s'.dc i=s.dc i∧s'.av i=s.av i)∧(∀i,i≠m→s'.mp i=s.mp i)∧s'.base=s.base:=by
 have hen:s.ents m (s.av m)=some (ents b s.av 0 L):=by unfold PS.ents;rw[bd rfl,h.mp]
 have hlk:=aov b s.av k L 0;have azt:(([C5 v]:List (List D)).all fun e=>e.all D.one)=true:=rfl
 cases hf:M4 k 0 L with
 |none=>
  rw[hf]at hlk;have X6:=awz b s.av k (.ref (b+2*L.length) (s.av (b+2*L.length)+1) 1) L 0 hf;obtain⟨f1,f2⟩:=h.free L.length (ay _);refine⟨b+2*L.length,_,⟨f1,f2,m,s.av m,yx k,_,[C5 v],some 2,hx,hk,hen,hy,rfl,by simp,azt,by rw[agu];exact hL,.inl ⟨hlk,by simp,_,X6,rfl⟩⟩,?_,rfl,fun i hi=>?_,fun i hi=>?_,rfl⟩
  ·rw[apk k v L 0 hf]
   have hne:∀j,m≠b+2*j:=fun j=>by omega
   refine⟨?_,fun j p hp=>?_,fun j hj=>?_⟩
   ·simp only[PS.a0u,cu,au1,gd];rw[a6v b s.av _ L 0 fun j _ hj=>gj _ _ _ _ (by omega)];rfl
   ·simp only[PS.a0u];by_cases hj:j=L.length
    ·subst hj;rw[cu];rw[ly (ay _),Vm]at hp;simp only[dv,ak]at hp;subst hp;rfl
    rw[gj _ _ _ _ (by omega)]
    have hlt:j<L.length:=by
     have:=(aw.1 hp).1;simp only[db,cj,du]at this;omega
    rw[mj hlt]at hp;exact h.dc j p hp
   simp only[db,cj,du]at hj;simp only[PS.a0u];rw[gj _ _ _ _ (by omega),gj _ _ _ _ (by omega)];exact h.free j (by omega)
  ·simp only[PS.a0u];rw[gj _ _ _ _ (hi _),gj _ _ _ _ (hi _)];exact⟨rfl,rfl⟩
  simp only[PS.a0u];rw[gj _ _ _ _ hi]
 |some q=>
  obtain⟨j,l⟩:=q;rw[hf]at hlk;obtain⟨k1,_,⟨a,k3,k4⟩,k5,k6⟩:=awy b s.av k v L 0 j l hf;rw[Vk]at k3 k4 k5;have hb:=h.dc j _ k3
  have he:s.dm (b+2*j) (s.av (b+2*j))=some (2,l.map C5):=by unfold PS.dm;rw[bd rfl,hb]
  have hll:=hl _ (jw k3);have hjl:j<L.length:=(aw.1 k3).1;obtain⟨f1,f2⟩:=h.free L.length (ay _);refine⟨b+2*L.length,_,⟨f1,f2,m,s.av m,yx k,_,[C5 v],some 2,hx,hk,hen,hy,rfl,by simp,azt,by rw[agu];exact hL,.inr ⟨_,_,_,_,hlk,he,by simp,by simp only[cj,du];simp only at hll;omega,_,k1,rfl⟩⟩,?_,rfl,fun i hi=>?_,fun i hi=>?_,rfl⟩
  ·refine⟨?_,fun q p hp=>?_,fun q hq=>?_⟩
   ·simp only[PS.a0u,cu]
   ·simp only[PS.a0u];by_cases hq:q=j
    ·subst hq;rw[cu];rw[k4]at hp
     injection hp with hp
     subst hp;simp
    rw[gj _ _ _ _ (by omega)];rw[k5 q hq]at hp;exact h.dc q p hp
   rw[k6]at hq;simp only[PS.a0u];rw[gj _ _ _ _ (by omega),gj _ _ _ _ (by omega)];exact h.free q hq
  ·simp only[PS.a0u];rw[gj _ _ _ _ (hi _)];exact⟨rfl,trivial⟩
  simp only[PS.a0u];rw[gj _ _ _ _ hi]
theorem al3(k v:Sp):∀L:Adj,(u0 k v L).length≤L.length+1:=by
 intro L
 induction L with
 |nil=>simp[u0]
 |cons x r ih=>
  obtain⟨a,l⟩:=x;simp only[u0];split
  ·simp
  simp only[cj];omega
theorem ahj(k v:Sp)(n:Nat):∀L:Adj,(∀p∈L,p.2.length≤n)→∀p∈u0 k v L,p.2.length≤n+1:=by
 intro L
 induction L with
 |nil=>intro _ p hp;simp[u0]at hp;subst hp;simp
 |cons x r ih=>
  obtain⟨a,l⟩:=x;intro h p hp;simp only[u0]at hp;split at hp
  ·rcases fb.1 hp with rfl|hp
   ·have:=h (a,l) (by simp);simp only[db,cj,du];simp only at this;omega
   have:=h p (by simp[hp]);omega
  rcases fb.1 hp with rfl|hp
  ·have:=h (a,l) (by simp);simp only at this⊢;omega
  exact ih (fun p hp=>h p (by simp[hp])) p hp
theorem ago(f:Ed→Sp×Sp)(es:List Ed):(es.foldl (fun L e=>u0 (f e).1 (f e).2 L) []).length≤es.length∧∀p∈es.foldl (fun L e=>u0 (f e).1 (f e).2 L) [],p.2.length≤es.length:=by
 have:∀r:List Ed,((r.reverse).foldl (fun L e=>u0 (f e).1 (f e).2 L) []).length≤r.length∧∀p∈(r.reverse).foldl (fun L e=>u0 (f e).1 (f e).2 L) [],p.2.length≤r.length:=by
  intro r
  induction r with
  |nil=>simp
  |cons e r ih=>
   rw[tu,pn];simp only[Aq,aIt,cj];exact⟨ij (al3 _ _ _) (by have:=ih.1;omega),ahj _ _ _ _ ih.2⟩
 have h:=this es.reverse
 rwa[pz,a2i]at h
theorem V8(es:List Ed):(Bd es).length≤es.length∧∀p∈Bd es,p.2.length≤es.length:=ago (fun e=>(e.1,e.2)) es
theorem ata(es:List Ed):(Ht es).length≤es.length∧∀p∈Ht es,p.2.length≤es.length:=ago (fun e=>(e.2,e.1)) es
theorem aiw{es:List Ed}{k:Nat}(h:k<es.length):Bd (es.take (k+1))=u0 (es.getD k e0).1 (es.getD k e0).2 (Bd (es.take k)):=by
 unfold Bd;rw[gl,pn];simp[h,cw]
theorem ap3{es:List Ed}{k:Nat}(h:k<es.length):Ht (es.take (k+1))=u0 (es.getD k e0).2 (es.getD k e0).1 (Ht (es.take k)):=by
 unfold Ht;rw[gl,pn];simp[h,cw]
section
variable{P:Program}{K:PS→Prop}{s:PS}{r:List RI}
theorem aai{m b:Nat}{L:Adj}(h:V0 s m b L)(hm:m<b)(hL:L.length<2^30)(hl:∀p∈L,p.2.length<2^30){x kd y:V}{k v:Sp}(hx:x= .l9 m (s.av m))(hk:kd= .d (yx k))(hy:qh s y=some ([C5 v],some 2))(ts:List Nat)
  (hK:∀s',V0 s' m b (u0 k v L)→s'.tmp=(fun t=>if t∈ts then .no else s.tmp t)→(∀i,(∀j,i≠b+2*j)→s'.dc i=s.dc i∧s'.av i=s.av i)→(∀i,i≠m→s'.mp i=s.mp i)→s'.base=s.base→lk P r s' K):
  azw P (.row [.int,.int]) 2 16 x kd y ts none s (Ac P r K):=by
 obtain⟨id,s',h1,h2,h3,h4,h5,h6⟩:=av8 h hm hL hl hx hk hy ts;exact⟨id,s',h1,hK s' h2 h3 h4 h5 h6⟩
end
def ayx(es:List Ed):D:= .agg [Ss (Bd es),Ss (Ht es)]
def Mv(b n:Nat):List Nat:=(dt n).map fun j=>b+2*j
theorem X2{b n i:Nat}:i∈Mv b n↔∃j,j<n∧i=b+2*j:=by
 unfold Mv;rw[gr];constructor
 ·rintro⟨j,hj,rfl⟩;exact⟨j,ez.1 hj,rfl⟩
 rintro⟨j,hj,rfl⟩;exact⟨j,ez.2 hj,rfl⟩
def fE(p:Sp×List Sp):D×C:=(yx p.1,.d (xf p.2))
theorem agj{s:PS}{b:Nat}{L:Adj}{ids:List Nat}(hb:∀(j:Nat) (p:Sp×List Sp),L[j]? =some p→s.dc (b+2*j)=some (.arr 2 (p.2.map C5)))(hi:∀j,j<L.length→b+2*j∈ids):
  (ents b s.av 0 L).map (fun e=>(e.1,C.xc s ids e.2))=L.map fE:=by
 have:∀(L':Adj) (i:Nat),(∀j p,L'[j]? =some p→L[i+j]? =some p)→(ents b s.av i L').map (fun e=>(e.1,C.xc s ids e.2))=L'.map fE:=by
  intro L'
  induction L' with
  |nil=>intro i _;rfl
  |cons x r ih=>
   intro i h;obtain⟨a,l⟩:=x;have h0:=h 0 (a,l) rfl;rw[Af]at h0;have hlt:=(aw.1 h0).1;have hbl:=hb i _ h0
   have he:s.dm (b+2*i) (s.av (b+2*i))=some (2,l.map C5):=by unfold PS.dm;rw[bd rfl,hbl]
   simp only[ents,dr,ih (i+1) fun j p hp=>by have:=h (j+1) p (by simpa using hp);rw[←this];congr 1;omega]
   congr 1
   simp only[C.xc,bd (hi i hlt),he,ag,cz,fE,xf]
 exact this L 0 fun j p hp=>by rw[gd];exact hp
theorem ayy(L:Adj):Zb (L.map fE)=some (L.map fun p=>(yx p.1,xf p.2)):=by
 induction L with
 |nil=>rfl
 |cons x r ih=>simp only[dr,fE,Zb,ih]
section
variable{P:Program}(A:Pr3 P)
theorem alh(es:List Ed)(hes:es.length≤2^20):iz P A.ua [Rt es] (ayx es):=by
 refine ec A.mo A.a38 (by simp) ?_;show kq P N3 (mb _ _) _;simp only[N3,Rt,go_sem,aa,ae,ah,reduceCtorEq,PS.ents,ca]
 refine we (fun s'=>s'.base=0∧s'.tmp 2= .ie 2 (s'.av 2) 0∧s'.dc 2=some (.loc [.d .Ir,.d .Ir])∧s'.tmp 3= .ie 3 (s'.av 3) 0∧s'.dc 3=some (.loc [.l9 6 (s'.av 6),.l9 7 (s'.av 7)])∧
  V0 s' 6 1000 (Bd es)∧V0 s' 7 1001 (Ht es)) ?_ ?_
 ·refine fp es.length (fun k s'=>s'.base=0∧s'.tmp 2= .ie 2 (s'.av 2) 0∧s'.dc 2=some (.loc [.d .Ir,.d .Ir])∧s'.tmp 3= .ie 3 (s'.av 3) 0∧s'.dc 3=some (.loc [.l9 6 (s'.av 6),.l9 7 (s'.av 7)])∧
   V0 s' 6 1000 (Bd (es.take k))∧V0 s' 7 1001 (Ht (es.take k))∧s'.tmp 9= .d (.gz 4 (es.map Dj))∧s'.tmp 10= .d (.int ab es.length)∧s'.tmp 11= .d (.int ab k)) ?_ ?_
  ·simp only[go_sem,aa,ag];refine⟨⟨rfl,?_,?_⟩,⟨rfl,?_,?_⟩⟩
   ·intro j p hp;simp[Bd]at hp
   ·intro j _;simp only[aj];exact⟨by rw[al (by omega),al (by omega),al (by omega)],by rw[al (by omega),al (by omega)]⟩
   ·intro j p hp;simp[Ht]at hp
   intro j _;simp only[aj];exact⟨by rw[al (by omega),al (by omega),al (by omega)],by rw[al (by omega),al (by omega)]⟩
  rintro k s' hk ⟨eb,f2,b2,f3,b3,ho,hi,f9,f10,f11⟩;by_cases hlt:(k:Int)<es.length
  ·have dq:k<es.length:=by omega
   have wk:=dh ((k:Int)+1) (by omega) (by omega);have lo:=V8 (es.take k);have li:=ata (es.take k)
   have ltk:(es.take k).length≤2^20:=by simp;omega
   simp only[go_sem,aa,de,ew,ed,ey,ae,ah,reduceCtorEq,di,eb,f3,b3,f9,f10,f11,hlt,Dm dq,bp,ao]
   refine aai (m:=6) (b:=1000) (k:=(es.getD k e0).1) (v:=(es.getD k e0).2) (L:=Bd (es.take k)) ?_ (by omega) (by omega) (fun p hp=>by have:=lo.2 p hp;omega) ?_ rfl ?_ _ ?_
   ·refine ho.frame ?_ (fun j=>?_) (fun j=>?_) (fun j=>?_)
    ·rfl
    ·simp only[aj];rw[al (by omega),al (by omega),al (by omega)]
    ·simp only[aj];rw[al (by omega),al (by omega)]
    rfl
   ·simp only[aj,aa,reduceIte]
   ·simp only[qh,PS.dm,aj,aa,reduceIte,cj,du,C5]
   intro s2 ho2 g1 g2 g3 g4;have p3:=g2 3 (fun j=>by omega);have p2:=g2 2 (fun j=>by omega);have p5:=g2 5 (fun j=>by omega);have p6:=g2 6 (fun j=>by omega);have p7:=g2 7 (fun j=>by omega);have m7:=g3 7 (by omega);simp only[aj,aa,reduceIte]at p3 p2 p5 p6 p7;simp only[go_sem,aa,de,ew,ed,ey,ae,ah,di,g1,g4,p3.1,p3.2,p5.1,p5.2,fb,l8,or_false,f3,b3]
   refine aai (m:=7) (b:=1001) (k:=(es.getD k e0).2) (v:=(es.getD k e0).1) (L:=Ht (es.take k)) ?_ (by omega) (by omega) (fun p hp=>by have:=li.2 p hp;omega) ?_ rfl ?_ _ ?_
   ·refine hi.frame ?_ (fun j=>?_) (fun j=>?_) (fun j=>?_)
    ·exact m7
    ·have:=(g2 (1001+2*j) (fun j'=>by omega)).1;simp only[aj]at this⊢;rw[al (by omega),this,al (by omega),al (by omega),al (by omega)]
    ·have:=(g2 (1001+2*j) (fun j'=>by omega)).2;simp only[aj]at this⊢;rw[al (by omega),this,al (by omega),al (by omega)]
    exact g3 _ (by omega)
   ·simp only[aj,aa,reduceIte,p7.2]
   ·simp only[qh,PS.dm,aj,reduceIte,cj,du,C5]
   intro s3 hi2 q1 q2 q3 q4;have r3:=q2 3 (fun j=>by omega);have r2:=q2 2 (fun j=>by omega);have r6:=q2 6 (fun j=>by omega);have r7:=q2 7 (fun j=>by omega);simp only[aj,aa,reduceIte]at r3 r2 r6 r7;simp only[go_sem,aa,reduceCtorEq,q1,q4,r2.1,r2.2,r3.1,r3.2,r6.2,r7.2,p2.1,p2.2,p3.1,p3.2,p6.2,p7.2,fb,l8,or_false,f2,b2,f3,b3,f9,f10,f11,wk,dq,aiw dq,ap3 dq];refine⟨ho2.frame ?_ (fun j=>?_) (fun j=>?_) (fun j=>?_),hi2.frame rfl (fun j=>rfl) (fun j=>rfl) (fun j=>rfl),by simp⟩
   ·exact q3 6 (by omega)
   ·have:=(q2 (1000+2*j) (fun j'=>by omega)).1;simp only[aj]at this⊢;rw[this,al (by omega)]
   ·have:=(q2 (1000+2*j) (fun j'=>by omega)).2;simp only[aj]at this⊢;rw[this,al (by omega)]
   exact q3 _ (by omega)
  have:k=es.length:=by omega
  subst this;rw[eh]at ho hi;simp only[go_sem,aa,reduceCtorEq,eb,f2,b2,f3,b3,f10,f11,hlt];exact⟨ho.frame rfl (fun j=>rfl) (fun j=>rfl) (fun j=>rfl),hi.frame rfl (fun j=>rfl) (fun j=>rfl) (fun j=>rfl)⟩
 rintro s' ⟨eb,f2,b2,f3,b3,ho,hi⟩;simp only[go_sem]
 have Vu:(999::(Mv 1000 (Bd es).length++Mv 1001 (Ht es).length))≠[]:=by simp
 refine Tu (999::(Mv 1000 (Bd es).length++Mv 1001 (Ht es).length)) ?_
 have Bs:∀i,i<999→i∉(999::(Mv 1000 (Bd es).length++Mv 1001 (Ht es).length)):=by
  intro i hi h;simp only[fb,lx,X2]at h;omega
 have n2:=Kc (s:=s') Vu 2;have n3:=Kc (s:=s') Vu 3;have nb2:=Lz (s:=s') Vu (Bs 2 (by omega));have nb3:=Lz (s:=s') Vu (Bs 3 (by omega));have nm6:=acy (s:=s') Vu (Bs 6 (by omega));have nm7:=acy (s:=s') Vu (Bs 7 (by omega));have nv:=a48 (s:=s') Vu;have nb:=Uk (999::(Mv 1000 (Bd es).length++Mv 1001 (Ht es).length)) s';simp only[aaj,ho.mp,hi.mp,ir]at nm6 nm7;rw[agj ho.dc fun j hj=>by simp only[fb,lx,X2];exact .inr (.inl ⟨j,hj,rfl⟩)]at nm6;rw[agj hi.dc fun j hj=>by simp only[fb,lx,X2];exact .inr (.inr ⟨j,hj,rfl⟩)]at nm7;simp only[f2,f3,V.xc]at n2 n3;simp only[Ix,b2,b3,dr,gn,C.xc,al (Bs 6 (by omega)),al (Bs 7 (by omega))]at nb2 nb3;rw[eb]at nb
 generalize s'.xc (999::(Mv 1000 (Bd es).length++Mv 1001 (Ht es).length))=s2 at*
 rw[←nv]at n2 n3 nb3;simp only[go_sem,aa,ae,PS.ents,ca,n2,n3,nb2,nb3,nm6,nm7,nb,ayy,ayx,Ss]
end
def Iz(sz by_:Nat)(z:List D):dn:=
 (.seq (
 .region [⟨some 2,.ji (.c .ck),none,[]⟩] false []) (
 (.seq (
  (.seq (
  .region [⟨some 3,.ji (.t 0),none,[]⟩,
   ⟨some 4,.K2 .gz false (.t 3),none,[]⟩] false []) (
  (.cond (.t 4) (
   (.seq (
   .region [⟨some 2,.ji (.c .ck),none,[]⟩] false []) (
   .ret))) (
   .skip))))) (
  (.seq (
  .region [⟨some 5,.yy false 0 sz z [],none,[]⟩,
   ⟨some 6,.ji (.t 0),none,[]⟩,
   ⟨some 7,.app sz by_ (.t 5) (.t 6),none,[]⟩,
   ⟨some 2,.ji (.t 7),none,[]⟩] false []) (
  .ret))))))
def xv(m:Mem)(rs:List J0)(m':Mem)(r:V):Exit→PS→Prop:=fun e s=>(e= .normal∨e= .ret)∧pa s rs=some r∧Clean s.mem m'
theorem au4{m m':Mem}{rs:List J0}{r:V}{s:PS}:xv m rs m' r .ret s=(pa s rs=some r∧Clean s.mem m'):=by simp[xv]
theorem agw{m m':Mem}{rs:List J0}{r:V}{s:PS}:xv m rs m' r .normal s=(pa s rs=some r∧Clean s.mem m'):=by simp[xv]
attribute [go_sem] au4 agw
section
variable{P:Program}
theorem a1l{sz by_:Nat}{z:List D}:kq P (Iz sz by_ z) (mb [.tmp 2] .ck) (start [.ck]):=by
 simp only[Iz,go_sem,aa,reduceCtorEq]
theorem as2{sz by_:Nat}{z:List D}:kq P (Iz sz by_ z) (mb [.tmp 2] (.gz sz [])) (start [.Of]):=by
 simp only[Iz,go_sem,aa,ah,reduceCtorEq,di,Gb,qh,Pz]
theorem awx{sz by_:Nat}{z:List D}{dm:List (List D)}(hne:dm≠[])(ho:∀e∈dm,e.all D.one=true)(hb:dm.length*by_≤2^47):kq P (Iz sz by_ z) (mb [.tmp 2] (.gz sz dm)) (start [.gz sz dm]):=by
 have ho':(dm.all fun e=>e.all D.one)=true:=dj.2 ho
 cases dm with
 |nil=>exact absurd rfl hne
 |cons e r=>
  simp only[Iz,go_sem,aa,reduceCtorEq,di,Gb,qh];simp only[cj]at hb;simp only[W4]at ho';simp only[ho',go_sem,aa,hb]
theorem Ux(hm:P.follows .mixedOrders=true){f:Nat}{sz by_:Nat}{z:List D}(hf:ff P f {}=some (Iz sz by_ z,[.tmp 2],8)){dm:List (List D)}(ho:∀e∈dm,e.all D.one=true)(hb:dm.length*by_≤2^47):iz P f [.gz sz dm] (.gz sz dm):=by
 by_cases hne:dm=[]
 ·subst hne;exact iz.split ((ec hm hf (by simp) a1l).M8 Lh) (ec hm hf (by simp) as2)
 exact ec hm hf (by simp) (awx hne ho hb)
theorem apz(hm:P.follows .mixedOrders=true){f:Nat}{sz by_:Nat}{z:List D}(hf:ff P f {}=some (Iz sz by_ z,[.tmp 2],8)):iz P f [.ck] .ck:=ec hm hf (by simp) a1l
def Mem.put(m:Mem)(id v:Nat)(b:B):Mem:=⟨l7 m.dc id (some b),l7 m.av id v,m.mp⟩
theorem Mem.Qr{m:Mem}{id v sz:Nat}{dm:List (List D)}:∀i b,(m.put id v (.arr sz dm)).dc i=some b→m.dc i=some b∨Ms (m.put id v (.arr sz dm)) b:=by
 intro i b hb;simp only[Mem.put,aj]at hb;split at hb
 ·injection hb with hb;subst hb;exact .inr trivial
 exact .inl hb
theorem Mem.Lu{m:Mem}{id v:Nat}{b:B}(h:m.av id≤v):∀i,m.av i≤(m.put id v b).av i:=by
 intro i;simp only[Mem.put,aj];split
 ·rename_i h';subst h';exact h
 exact ay _
theorem aar(hm:P.follows .mixedOrders=true){f:Nat}{sz by_:Nat}{z:List D}(hf:ff P f {}=some (Iz sz by_ z,[.tmp 2],8)){dm:List (List D)}(hne:dm≠[])(ho:∀e∈dm,e.all D.one=true)(hb:dm.length*by_≤2^47)
  (m:Mem)(b:Nat):qm P f m [.d (.gz sz dm)] (m.put (b+5) (m.av (b+5)+1) (.arr sz dm)) (.ref (b+5) (m.av (b+5)+1) dm.length):=by
 refine lu hm hf (by simp) b (fun c=>?_) (Mem.Lu (by omega)) Mem.Qr (fun i es hi=> .inl hi) (by simp[Hh,Mem.put,cu]);show kq P (Iz sz by_ z) (xv m [.tmp 2] _ _) _;have ho':(dm.all fun e=>e.all D.one)=true:=dj.2 ho
 cases dm with
 |nil=>exact absurd rfl hne
 |cons e r=>
  simp only[Iz,enter,go_sem,aa,reduceCtorEq,di,Gb,qh,aAa];simp only[cj]at hb;simp only[W4]at ho';simp only[ho',go_sem,aa,hb,pa,sq];intro i;simp only[Mem.put,PS.mem,aj];by_cases hi:i=b+5
  ·subst hi;simp
  simp[hi]
end
section
variable{P:Program}{K:PS→Prop}{s:PS}{r:List RI}{d:Option Nat}
theorem a7d{c:Option D}{g:Nat}{j2:List D}{own:Bool}{a x:D}(h:c=some (.oq g j2))(h2:iz P g (a::j2) x)(hx:x.flat=true)(h4:lk P r (s.put d (.d x)) K):ama P c own [.d a] d s (Ac P r K):=by
 subst h;exact⟨[a],x,rfl,h2.toC,.inl hx,h4⟩
theorem jr{f:Nat}{args:List V}{ds:List D}{x:D}(h1:Hk s args=some ds)(h2:iz P f ds x)(hx:x.flat=true)(h4:lk P r (s.put d (.d x)) K):Ey P f args [] false d s (Ac P r K):=
 ⟨ds,x,h1,by rw[sr];exact h2.toC,.inl hx,h4⟩
end
theorem Sq(p:Nat→Bool)(n:Nat):(zm p n= -1∧∀i,i<n→p i=false)∨∃i,i<n∧zm p n=(i:Int)∧p i=true∧∀k,k<i→p k=false:=by
 cases h:(dt n).find? p with
 |none=>
  refine .inl ⟨by unfold zm;rw[h],fun i hi=>?_⟩;have:=Xs.1 h i (ez.2 hi);simpa using this
 |some i=>
  obtain⟨h1,as,bs,h2,h3⟩:=Zn.1 h;have hi:i<n:=ez.1 (V1 h)
  have hk:∀k,k<i→p k=false:=fun k hk=>by
   have hlen:as.length=i:=by
    have h5:(dt n)[as.length]? =some i:=by rw[h2,ly (ay _),Vm];rfl
    have h6:=(aw.1 h5);obtain⟨h7,h8⟩:=h6;rw[List.getElem_range]at h8;exact h8
   have hk1:as[k]? =some k:=by
    have h5:(dt n)[k]? =some k:=Mt (by omega);rw[h2,mj (by omega)]at h5;exact h5
   simpa using h3 k (jw hk1)
  exact .inr ⟨i,hi,by unfold zm;rw[h],h1,hk⟩
theorem filter_none{α:Type}{l:List α}{p:α→Bool}(h:∀x∈l,p x=false):l.filter (fun x=> !p x)=l:=by
 rw[a2k];intro x hx;simp[h x hx]
theorem a1y{l:List Sp}{p:Sp→Bool}{j:Nat}(h:j<l.length):(l.take (j+1)).filter (fun x=> !p x)=(l.take j).filter (fun x=> !p x)++if p l[j]then[]else[l[j]]:=by
 rw[gl,Xt];simp only[ax h,amm,ab1,List.filter_nil];cases p l[j]<;>rfl
def Lm(m:Mem)(id av:Nat)(l:List Sp)(p:Sp→Bool):Mem:=if l.any p then m.put id (av+1) (.arr 2 ((l.filter fun x=> !p x).map C5))else m
def a0v(id av:Nat)(l:List Sp)(p:Sp→Bool):V:= .ref id (if l.any p then av+1 else av) (l.filter fun x=> !p x).length
section
variable{P:Program}(A:Pr3 P)
theorem abq(l:List Sp)(hl:l.length≤2^30){m:Mem}{id av b q qv:Nat}{g:Nat}{n1 n2:D}{p:Sp→Bool}(hb:m.dc id=some (.arr 2 (l.map C5)))(hv:m.av id=av)
  (ag6:m.dc (b+7)=none∧m.mp (b+7)=none)(hid:id≠b+7)(aC2:m.mp id=none)(hq:m.dc q=some (.loc [.d n1,.d n2]))(hqv:m.av q=qv)(hq1:q≠id)(hq2:q≠b+7)
  (hp:∀x∈l,iz P g [.agg (C5 x),.uw [n1,n2] 0] (.bool (p x))):
  qm P A.me m [.ref id av l.length,.oq g [(q,qv)]] (Lm m id av l p) (a0v id av l p):=by
 have hI:=aet A.toPr (l:=l) (g:=g) (j2:=[.uw [n1,n2] 0]) (p:=fun i=>p (l.getD i (0,0))) (fun i hi=>by
  have e:l.getD i (0,0)=l[i]:=by simp[cw,hi]
  simp only[e]
  exact hp _ (df hi)) (by omega)
 refine lu A.mo A.K6 (by simp) b (fun cx=>?_) (fun i=>?_) (fun i b' rp=>?_) (fun i es hi=> .inl ?_) ?_
 ·show kq P (y0 A.jz) (xv m [.tmp 4] _ _) _;simp only[y0,enter,go_sem,aa,cq,reduceCtorEq];refine jr (ds:=[xf l,.oq g [.uw [n1,n2] 0]]) ?_ hI rfl ?_
  ·simp only[go_sem,hb,hv,hq,hqv,ag,xf,ju,oh]
  rcases Sq (fun i=>p (l.getD i (0,0))) l.length with ⟨h1,h2⟩|⟨i0,h0,h1,h2,h3⟩
  ·have a8s:l.any p=false:=by
    rw[avh];intro x hx;obtain⟨i,hi,rfl⟩:=gf.1 hx;have:=h2 i hi;simpa[cw,hi]using this
   have hf:l.filter (fun x=> !p x)=l:=filter_none fun x hx=>by simpa using avh.1 a8s x hx
   simp only[go_sem,aa,W5,cq,reduceCtorEq,h1,a0v,Lm,a8s,hf,pa,sq];exact fun i=>⟨.inr ⟨rfl,rfl⟩,.inr ⟨rfl,rfl⟩⟩
  have h0':=h0
  have h0:p l[i0]=true:=by simpa[cw,h0]using h2
  have a8s:l.any p=true:=Av.2 ⟨_,df _,h0⟩
  have hk0:∀x∈l.take i0,p x=false:=by
   intro x hx;obtain⟨k,hk,rfl⟩:=gf.1 hx;simp only[er]at hk;have:=h3 k (by omega)
   have hkl:k<l.length:=by omega
   simpa[cw,hkl]using this
  have hw0:=dh ((i0:Int)+1) (by omega) (by omega)
  have hne:((i0:Int)== -1)=false:=by simp
  simp only[go_sem,aa,cq,reduceCtorEq,h1,hne,hw0]
  refine we (fun s'=>s'.base=b∧s'.tmp 0= .ref id av l.length∧s'.mp=m.mp∧s'.av id=av∧(∀k,k≠id→k≠b+7→s'.dc k=m.dc k∧s'.av k=m.av k)∧
   s'.tmp 5= .d (.int ab ((l.filter fun x=> !p x).length:Nat))∧∃w:List Sp,w.length=l.length∧s'.dc id=some (.arr 2 (w.map C5))∧w.take (l.filter fun x=> !p x).length=l.filter fun x=> !p x) ?_ ?_
  ·refine fp (l.length-(i0+1)) (fun k s'=>s'.base=b∧s'.tmp 0= .ref id av l.length∧s'.tmp 1= .oq g [(q,qv)]∧s'.mp=m.mp∧s'.av id=av∧(∀k,k≠id→k≠b+7→s'.dc k=m.dc k∧s'.av k=m.av k)∧
    s'.tmp 6= .d (.int ab ((i0+1+k:Nat):Int))∧s'.tmp 5= .d (.int ab (((l.take (i0+1+k)).filter fun x=> !p x).length:Nat))∧∃w:List Sp,w.length=l.length∧s'.dc id=some (.arr 2 (w.map C5))∧
    w.take ((l.take (i0+1+k)).filter fun x=> !p x).length=((l.take (i0+1+k)).filter fun x=> !p x)∧w.drop (i0+1+k)=l.drop (i0+1+k)) ?_ ?_
   ·have e1:(l.take (i0+1+0)).filter (fun x=> !p x)=l.take i0:=by
     rw[Af,a1y h0',h0,filter_none hk0];simp
    rw[e1]
    have e2:(l.take i0).length=i0:=by simp;omega
    simp only[go_sem,aa,reduceCtorEq,e2];exact⟨hv,fun k _ _=>trivial,by rw[lz];rfl,l,rfl,hb,rfl,rfl⟩
   rintro k s' hk ⟨eb,f0,f1,emp,ev,fr,f6,f5,w,w1,w2,w3,w4⟩;by_cases hlt:((i0+1+k:Nat):Int)<l.length
   ·have dq:i0+1+k<l.length:=by omega
    have hkn:k<l.length-(i0+1):=by omega
    have wj:=dh (((i0+1+k:Nat):Int)+1) (by omega) (by omega)
    have hwj:i0+1+k<w.length:=by omega
    have hg:=Dl hwj
    have hwl:w.getD (i0+1+k) (0,0)=l[i0+1+k]:=by
     have h5:(w.drop (i0+1+k))[0]? =(l.drop (i0+1+k))[0]? :=by rw[w4]
     simp only[og,Af]at h5;rw[Au,h5,ax dq];rfl
    rw[hwl]at hg;have tn:=a1y (p:=p) dq;have aJ4:((l.take (i0+1+k)).filter fun x=> !p x).length≤i0+1+k:=ij (Dg _ _) (by simp;omega);have wi:=dh ((((l.take (i0+1+k)).filter fun x=> !p x).length:Int)+1) (by omega) (by omega)
    generalize hF:(l.take (i0+1+k)).filter (fun x=> !p x)=F at*
    have hFw:F.length<w.length:=by omega
    have hgF:=Dl hFw;have fq:=fr q hq1 hq2;rw[hq,hqv]at fq;have aEi:¬(b+7=id):=fun h=>hid h.symm
    have O3:∀x:Sp,(w.map C5).set F.length [.int ab x.1,.int ab x.2]=(w.set F.length x).map C5:=fun x=>by rw[aL2];rfl
    have aJ5:F.length<l.length:=by omega
    have aHg:(F.length:Int)<l.length:=by omega
    simp only[go_sem,aa,ae,reduceCtorEq,eb,f0,f1,f6,ev,w2,w1,ag,hlt,hg,bp,ao,hq2,fq.1,fq.2,ju,oh];refine a7d rfl (hp l[i0+1+k] (df _)) rfl ?_
    have frame:∀(u:Nat→Option B) (v:Nat→Nat),(∀j,j≠id→j≠b+7→u j=s'.dc j∧v j=s'.av j)→∀j,j≠id→j≠b+7→u j=m.dc j∧v j=m.av j:=fun u v huv j h1 h2=>by
     obtain⟨k1,k2⟩:=huv j h1 h2;obtain⟨k3,k4⟩:=fr j h1 h2;exact⟨k1.trans k3,k2.trans k4⟩
    have ej:((i0+1+k:Nat):Int)+1=((i0+1+(k+1):Nat):Int):=by omega
    have aA1:w.drop (i0+1+(k+1))=l.drop (i0+1+(k+1)):=by
     have:=congrArg (aLq 1) w4;simpa[amv,rv]using this
    cases c1:p l[i0+1+k]
    ·rw[c1]at tn;simp only[fw,bn]at tn;simp only[go_sem,aa,ae,reduceCtorEq,f0,f1,f5,f6,ev,w2,w1,ag,bp,ao,hid,hgF,O3,aHg,wi,wj,hkn]
     refine⟨emp,frame _ _ fun j h1 h2=>?_,by rw[ej],by rw[show i0+1+(k+1)=i0+1+k+1 by omega,tn];simp,w.set F.length l[i0+1+k],by simp[w1],rfl,?_,?_⟩
     ·simp[h1,h2]
     ·rw[show i0+1+(k+1)=i0+1+k+1 by omega,tn];rw[db,cj,du,gl,List.getElem?_set_self hFw,List.take_set_of_le (ay _),w3];rfl
     rw[List.drop_set_of_lt (by omega)];exact aA1
    rw[c1]at tn;simp only[cz,sr]at tn;simp only[go_sem,aa,reduceCtorEq,f0,f1,f5,f6,ev,w2,hid,wj,hkn]
    refine⟨emp,frame _ _ fun j h1 h2=>?_,by rw[ej],by rw[show i0+1+(k+1)=i0+1+k+1 by omega,tn],w,w1,rfl,?_,?_⟩
    ·simp[h2]
    ·rw[show i0+1+(k+1)=i0+1+k+1 by omega,tn];exact w3
    exact aA1
   have he:i0+1+k=l.length:=by omega
   rw[he,eh]at f5 w3;simp only[go_sem,aa,reduceCtorEq,f0,f6,ev,w2,w1,ag,hlt];refine⟨eb,emp,?_⟩;exact⟨fr,f5,w,w1,rfl,w3⟩
  rintro s' ⟨eb,f0,emp,ev,fr,f5,w,w1,w2,w3⟩;have hle:(l.filter fun x=> !p x).length≤l.length:=Dg _ _
  have a2w:0<l.length:=by omega
  have hF0:¬(((l.filter fun x=> !p x).length:Int)<0):=by omega
  have hFl:((l.filter fun x=> !p x).length:Int)≤l.length:=by omega
  have hwm:(w.map C5).length=l.length:=by rw[ag,w1]
  have hlen:((w.map C5).take (l.filter fun x=> !p x).length++jb (l.length-(l.filter fun x=> !p x).length) [D.int ab 0,D.int ab 0]++(w.map C5).drop ((l.filter fun x=> !p x).length+(l.length-(l.filter fun x=> !p x).length))).length=l.length:=by simp[w1];omega
  have a62:((w.map C5).take (l.filter fun x=> !p x).length++jb (l.length-(l.filter fun x=> !p x).length) [D.int ab 0,D.int ab 0]++(w.map C5).drop ((l.filter fun x=> !p x).length+(l.length-(l.filter fun x=> !p x).length))).take (l.filter fun x=> !p x).length=(l.filter fun x=> !p x).map C5:=by
   rw[po,azg (by simp[w1];omega),List.take_take,Nat.min_self,←Lr,w3]
  simp only[go_sem,aa,ae,reduceCtorEq,eb,f0,f5,ev,w2,hwm,bp,ao,hFl,a2w,hle,implies_true,hlen,a62];simp only[Lm,a0v,a8s,cz,pa,sq,go_sem,aa];intro j;simp only[Mem.put,PS.mem,aj];by_cases h1:j=id
  ·subst h1;simp[aC2]
  by_cases h2:j=b+7
  ·subst h2;simp[ag6.1,ag6.2,h1]
  obtain⟨k1,k2⟩:=fr j h1 h2;simp[h1,k1,k2,emp]
 ·unfold Lm;split
  ·exact Mem.Lu (by omega) i
  exact ay _
 ·unfold Lm at rp⊢;split at rp
  ·rename_i h;rw[bd h];exact Mem.Qr i b' rp
  exact .inl rp
 ·unfold Lm at hi;split at hi
  ·exact hi
  exact hi
 unfold a0v Lm;split
 ·simp[Hh,Mem.put,cu]
 simp[Hh,hv]
end
def Uw(x y:Int):Int:=if x<y then-1 else if y<x then 1 else 0
def B4{α:Type}(f:α→α→Int):List α→List α→Int
 |[],[]=>0
 |[],_::_=> -1
 |_::_,[]=>1
 |a::r,b::t=>if f a b=0 then B4 f r t else f a b
def Uv(a b:Sp):Int:=B4 Uw [a.1,a.2] [b.1,b.2]
def Mq:List Sp→List Sp→Int:=B4 Uv
theorem a7k{α:Type}(f:α→α→Int)(l1 l2:List α)(i:Nat)(h1:i<l1.length)(h2:i<l2.length)(h:f l1[i] l2[i]=0):B4 f (l1.drop i) (l2.drop i)=B4 f (l1.drop (i+1)) (l2.drop (i+1)):=by
 rw[jj h1,jj h2];simp only[B4,h,cz]
theorem ah9{α:Type}(f:α→α→Int)(l1 l2:List α)(i:Nat)(h1:i<l1.length)(h2:i<l2.length)(h:f l1[i] l2[i]≠0):B4 f (l1.drop i) (l2.drop i)=f l1[i] l2[i]:=by
 rw[jj h1,jj h2];simp only[B4,al h]
theorem aha{α:Type}(f:α→α→Int)(l1 l2:List α)(i:Nat)(h1:i<l1.length)(h2:l2.length≤i):B4 f (l1.drop i) (l2.drop i)=1:=by
 rw[jj h1,Nw h2];rfl
theorem aaq{α:Type}(f:α→α→Int)(l1 l2:List α):B4 f (l1.drop l1.length) (l2.drop l1.length)=if l1.length<l2.length then-1 else 0:=by
 rw[Pc];split
 ·rename_i h;rw[jj h];rfl
 rename_i h;rw[Nw (by omega)];rfl
section
variable{P:Program}(A:Pr3 P)
theorem alk(n:Int):iz P A.yi [.int ab n] (.bool false):=by
 refine ec A.mo A.Z4 (by simp) ?_;show kq P Jw (mb _ _) _;simp only[Jw,go_sem,aa,reduceCtorEq,bne_self_eq_false]
theorem aif(x y:Int):iz P A.yo [.int ab x,.int ab y] (.int ab (Uw x y)):=by
 refine ec A.mo A.W1 (by simp) ?_;show kq P (Hd A.yi) (mb _ _) _;simp only[Hd,go_sem,aa,cq,reduceCtorEq];refine ft (alk A x) ?_;simp only[go_sem,aa,cq];refine ft (alk A y) ?_;unfold Uw;by_cases h1:x<y
 ·simp only[go_sem,aa,cq,reduceCtorEq,h1]
 by_cases h2:y<x
 ·simp only[go_sem,aa,cq,reduceCtorEq,h1,h2]
 simp only[go_sem,aa,cq,reduceCtorEq,h1,h2]
theorem aew(l1 l2:List Int)(hl1:l1.length≤2^50)(hl2:l2.length≤2^50):iz P A.uj [.gz 1 (l1.map xk),.gz 1 (l2.map xk)] (.int ab (B4 Uw l1 l2)):=by
 refine ec A.mo A.Si (by simp) ?_;show kq P (Ek A.yo) (mb _ _) _;simp only[Ek,go_sem,aa,cq,reduceCtorEq];refine we (fun s'=>s'.tmp 0= .d (.gz 1 (l1.map xk))∧s'.tmp 1= .d (.gz 1 (l2.map xk))∧B4 Uw l1 l2=if l1.length<l2.length then-1 else 0) ?_ ?_
 ·refine fp l1.length (fun i s'=>s'.tmp 0= .d (.gz 1 (l1.map xk))∧s'.tmp 1= .d (.gz 1 (l2.map xk))∧s'.tmp 9= .d (.gz 1 (l1.map xk))∧s'.tmp 10= .d (.int ab l1.length)∧s'.tmp 11= .d (.int ab i)∧
   B4 Uw l1 l2=B4 Uw (l1.drop i) (l2.drop i)) ?_ ?_
  ·simp only[go_sem,aa,reduceCtorEq,ag]
  rintro i s' hi ⟨f0,f1,f9,f10,f11,hI⟩;by_cases hlt:(i:Int)<l1.length
  ·have dq:i<l1.length:=by omega
   have wi:=dh ((i:Int)+1) (by omega) (by omega)
   have g1:(l1.map xk)[i]? =some [.int ab l1[i]]:=by simp[dq,xk]
   by_cases h2:(l2.length:Int)≤i
   ·rw[aha Uw l1 l2 i dq (by omega)]at hI;simp only[go_sem,aa,cq,reduceCtorEq,f1,f9,f10,f11,hlt,g1,bp,ao,ag,h2,hI]
   have h2':i<l2.length:=by omega
   have g2:(l2.map xk)[i]? =some [.int ab l2[i]]:=by simp[h2',xk]
   simp only[go_sem,aa,cq,reduceCtorEq,f1,f9,f10,f11,hlt,g1,g2,bp,ao,ag,h2];refine j5 (aif A _ _) ?_;by_cases h3:Uw l1[i] l2[i]=0
   ·rw[a7k Uw l1 l2 i dq h2' h3]at hI;simp only[go_sem,aa,kf,cq,reduceCtorEq,f0,f1,f9,f10,f11,h3,wi,dq];exact⟨by simp,hI⟩
   rw[ah9 Uw l1 l2 i dq h2' h3]at hI
   have h3':(Uw l1[i] l2[i] !=0)=true:=by simpa using h3
   simp only[go_sem,aa,cq,reduceCtorEq,h3',hI]
  have:i=l1.length:=by omega
  subst this;rw[aaq]at hI;simp only[go_sem,aa,cq,reduceCtorEq,f0,f1,f10,f11,hlt];exact hI
 rintro s' ⟨f0,f1,hI⟩;by_cases h:(l1.length:Int)<l2.length
 ·have h':l1.length<l2.length:=by omega
  simp only[go_sem,aa,cq,reduceCtorEq,f0,f1,ag,h,hI,h']
 have h':¬l1.length<l2.length:=by omega
 simp only[go_sem,aa,cq,reduceCtorEq,f0,f1,ag,h,hI,h']
theorem awc(a b:Sp):iz P A.ub [yx a,yx b] (.int ab (Uv a b)):=by
 refine ec A.mo A.a97 (by simp) ?_;show kq P (Qj A.uj) (mb _ _) _;simp only[Qj,yx,go_sem,aa,ey,ae];refine jr (ds:=[.gz 1 ([a.1,a.2].map xk),.gz 1 ([b.1,b.2].map xk)]) ?_ (aew A _ _ (by simp) (by simp)) rfl ?_
 ·simp only[go_sem,aa,ey,ae,ju,oh,xk,Nat.reduceLT]
 simp only[go_sem,aa];rfl
theorem Wa(l1 l2:List Sp)(hl1:l1.length≤2^50)(hl2:l2.length≤2^50):iz P A.j8 [xf l1,xf l2,.oq A.ub []] (.int ab (Mq l1 l2)):=by
 refine ec A.mo A.Iw (by simp) ?_;show kq P (xi) (mb _ _) _;simp only[xi,xf,Mq,go_sem,aa,cq,reduceCtorEq];refine we (fun s'=>s'.tmp 0= .d (.gz 2 (l1.map C5))∧s'.tmp 1= .d (.gz 2 (l2.map C5))∧B4 Uv l1 l2=if l1.length<l2.length then-1 else 0) ?_ ?_
 ·refine fp l1.length (fun i s'=>s'.base=0∧s'.tmp 0= .d (.gz 2 (l1.map C5))∧s'.tmp 1= .d (.gz 2 (l2.map C5))∧s'.tmp 2= .d (.oq A.ub [])∧s'.tmp 11= .d (.gz 2 (l1.map C5))∧s'.tmp 12= .d (.int ab l1.length)∧s'.tmp 13= .d (.int ab i)∧
   B4 Uv l1 l2=B4 Uv (l1.drop i) (l2.drop i)) ?_ ?_
  ·simp only[go_sem,aa,reduceCtorEq,ag]
  rintro i s' hi ⟨eb,f0,f1,f2,f11,f12,f13,hI⟩;by_cases hlt:(i:Int)<l1.length
  ·have dq:i<l1.length:=by omega
   have wi:=dh ((i:Int)+1) (by omega) (by omega);have g1:=Dl dq
   have e1:l1.getD i (0,0)=l1[i]:=by simp[cw,dq]
   rw[e1]at g1;by_cases h2:(l2.length:Int)≤i
   ·rw[aha Uv l1 l2 i dq (by omega)]at hI;simp only[go_sem,aa,cq,ae,reduceCtorEq,eb,f1,f11,f12,f13,hlt,g1,bp,ao,ag,h2,hI]
   have h2':i<l2.length:=by omega
   have g2:=Dl h2'
   have e2:l2.getD i (0,0)=l2[i]:=by simp[cw,h2']
   rw[e2]at g2;simp only[go_sem,aa,cq,ae,reduceCtorEq,eb,f1,f2,f11,f12,f13,hlt,g1,g2,bp,ao,ag,h2];refine P3 (awc A _ _) ?_;by_cases h3:Uv l1[i] l2[i]=0
   ·rw[a7k Uv l1 l2 i dq h2' h3]at hI;simp only[go_sem,aa,kf,cq,reduceCtorEq,f0,f1,f2,f11,f12,f13,h3,wi,dq];exact⟨by simp,hI⟩
   rw[ah9 Uv l1 l2 i dq h2' h3]at hI
   have h3':(Uv l1[i] l2[i] !=0)=true:=by simpa using h3
   simp only[go_sem,aa,cq,reduceCtorEq,h3',hI]
  have:i=l1.length:=by omega
  subst this;rw[aaq]at hI;simp only[go_sem,aa,cq,reduceCtorEq,f0,f1,f12,f13,hlt];exact hI
 rintro s' ⟨f0,f1,hI⟩;by_cases h:(l1.length:Int)<l2.length
 ·have h':l1.length<l2.length:=by omega
  simp only[go_sem,aa,cq,reduceCtorEq,f0,f1,ag,h,hI,h']
 have h':¬l1.length<l2.length:=by omega
 simp only[go_sem,aa,cq,reduceCtorEq,f0,f1,ag,h,hI,h']
end
section
variable{P:Program}(A:Pr3 P)
theorem aAx(n:Nat)(hn:0<n)(hb:n≤2^30)(m:Mem)(b:Nat):qm P A.re m [.d .ck,.d (.int ab n)] (m.put (b+22) (m.av (b+22)+2) (.arr 2 [])) (.ref (b+22) (m.av (b+22)+2) 0):=by
 refine lu A.mo A.Oy (by simp) b (fun c=>?_) (Mem.Lu (by omega)) Mem.Qr (fun i es hi=> .inl hi) (by simp[Hh,Mem.put,cu]);show kq P (Bv) (xv m [.tmp 4] _ _) _
 have h0:¬((n:Int)<0):=by omega
 have h1:(0:Int)<n:=by omega
 have w0:=dh ((n:Int)-0) (by omega) (by omega);have w1:=dh (0:Int) (by omega) (by omega)
 have hz:(n:Int)-0=n:=by omega
 rw[hz]at w0
 have hbb:(n:Int)*16≤2^47:=by omega
 have hz2:(n:Int)*((16:Nat):Int)≤2^47:=hbb;simp only[Bv,enter,go_sem,aa,ae,reduceCtorEq,h0,h1,w0,w1,Int.sub_zero,hbb,bp,aJb,ao,pa,sq,rv];intro j;simp only[Mem.put,PS.mem,aj];by_cases h:j=b+22
 ·subst h;simp
 simp[h]
theorem Z7{ls:List (List Sp)}{i:Nat}(h:i<ls.length):(ls.take (i+1)).flatten=(ls.take i).flatten++ls[i]:=by
 rw[gl,aJz];simp[h]
theorem arl(ls:List (List Sp))(hne:ls.flatten≠[])(h1:ls.length≤2^30)(h2:ls.flatten.length≤2^30):iz P A.qb [ku ls] (xf ls.flatten):=by
 refine ec A.mo A.Nl (by simp) ?_;show kq P (Ai A.re) (mb _ _) _;have a2w:0<ls.flatten.length:=a2j.2 hne
 have tk:∀i,(ls.take i).flatten.length≤ls.flatten.length:=fun i=>by
  have:=congrArg Gz (congrArg List.flatten (Kx i ls));rw[aJz,db]at this;omega
 simp only[Ai,ku,xf,go_sem,aa,reduceCtorEq];refine we (fun s'=>s'.base=0∧s'.tmp 0= .d (.gz 1 (ls.map fun l=>[xf l]))∧s'.tmp 3= .d (.int ab ls.flatten.length)) ?_ ?_
 ·refine fp ls.length (fun i s'=>s'.base=0∧s'.tmp 0= .d (.gz 1 (ls.map fun l=>[xf l]))∧s'.tmp 3= .d (.int ab (ls.take i).flatten.length)∧s'.tmp 9= .d (.gz 1 (ls.map fun l=>[xf l]))∧s'.tmp 10= .d (.int ab ls.length)∧s'.tmp 11= .d (.int ab i)) ?_ ?_
  ·simp only[go_sem,aa,reduceCtorEq,ag];rfl
  rintro i s' hi ⟨eb,f0,f3,f9,f10,f11⟩;by_cases hlt:(i:Int)<ls.length
  ·have dq:i<ls.length:=by omega
   have wi:=dh ((i:Int)+1) (by omega) (by omega);have hg:=Fu dq;have hft:=Z7 dq;have hl:=tk (i+1);rw[hft,db]at hl;have ws:=dh (((ls.take i).flatten.length:Int)+ls[i].length) (by omega) (by omega)
   have hn:¬(((ls.take i).flatten.length:Int)+ls[i].length<0):=by omega
   simp only[go_sem,aa,reduceCtorEq,eb,f0,f3,f9,f10,f11,hlt,hg,bp,ao,ag,ws,hn,wi,dq,hft,db];simp
  have:i=ls.length:=by omega
  subst this;rw[eh]at f3;simp only[go_sem,aa,reduceCtorEq,eb,f0,f3,f10,f11,hlt]
 rintro s' ⟨eb,f0,f3⟩;simp only[go_sem,eb,f3];refine lr (aAx A ls.flatten.length a2w h2 _ 1000) ?_;simp only[go_sem,aa,ae,reduceCtorEq,PS.j6,f0];refine we (fun s'=>s'.base=0∧s'.tmp 6= .ref 1022 (s'.av 1022) ls.flatten.length∧s'.dc 1022=some (.arr 2 (ls.flatten.map C5))) ?_ ?_
 ·refine fp ls.length (fun i s'=>s'.base=0∧s'.tmp 6= .ref 1022 (s'.av 1022) (ls.take i).flatten.length∧s'.dc 1022=some (.arr 2 ((ls.take i).flatten.map C5))∧s'.tmp 25= .d (.gz 1 (ls.map fun l=>[xf l]))∧s'.tmp 26= .d (.int ab ls.length)∧s'.tmp 27= .d (.int ab i)) ?_ ?_
  ·simp only[go_sem,aa,ag,Mem.put,PS.mem]
  clear eb f0 f3;rintro i s' hi ⟨eb,f6,b6,f25,f26,f27⟩;by_cases hlt:(i:Int)<ls.length
  ·have dq:i<ls.length:=by omega
   have wi:=dh ((i:Int)+1) (by omega) (by omega);have hg:=Fu dq;have hft:=Z7 dq;have hl:=tk (i+1);rw[hft,db]at hl
   have Bm:((ls[i].map C5).all fun e=>e.all D.one)=true:=by
    rw[dj];intro e he;obtain⟨p,_,rfl⟩:=gr.1 he;rfl
   have C9:((ls.take i).flatten.length+ls[i].length)*16≤2^47:=by omega
   simp only[go_sem,aa,reduceCtorEq,Gb,qh,eb,f6,b6,f25,f26,f27,hlt,hg,bp,ao,ag,Bm,C9,wi,dq,hft,db,fl];simp
  have:i=ls.length:=by omega
  subst this;rw[eh]at f6 b6;simp only[go_sem,aa,reduceCtorEq,eb,f6,b6,f26,f27,hlt]
 clear eb f0 f3;rintro s' ⟨eb,f6,b6⟩;simp only[go_sem,aa,eb,f6,b6,ag]
end
def Vg(O I:Adj)(s:Sp):Bool:=
 match Cd s O with
 |some [b]=>match Cd s I with
  |some (a::_)=>sgn (fj (lp s a) (lp b s)) !=0
  |_=>true
 |_=>true
theorem a5o(k:Sp)(L:Adj):Hs (.row [.int,.int]) (.agg [.int ab k.1,.int ab k.2]) ((L.map fun p=>(yx p.1,xf p.2)).map fun e=>(e.1,C.d e.2))=some ((Cd k L).map fun l=>C.d (xf l)):=by
 induction L with
 |nil=>rfl
 |cons x r ih=>
  obtain⟨a,l⟩:=x;simp only[dr,Cd];have:=a5q k a (C.d (xf l)) ((r.map fun p=>(yx p.1,xf p.2)).map fun e=>(e.1,C.d e.2));simp only[yx]at this ih⊢;rw[this];split
  ·rfl
  exact ih
theorem Xp{k:Sp}:∀{L:Adj} {l:List Sp},Cd k L=some l→∃a,(a,l)∈L:=by
 intro L
 induction L with
 |nil=>intro l h;cases h
 |cons x r ih=>
  intro l h;obtain⟨a,l'⟩:=x;simp only[Cd]at h;split at h
  ·injection h with h;subst h;exact⟨a,by simp⟩
  obtain⟨b,hb⟩:=ih h;exact⟨b,by simp[hb]⟩
def Vj(b fr Ef s:Sp):Bool:=
 (decide (yz (lp s b) fr<0)&& !decide (yz (lp Ef b) fr<0))||(decide (yz (lp s b) fr<0)==decide (yz (lp Ef b) fr<0)&&decide (0<yz (lp s b) (lp Ef b)))
def wh(b fr Ef s:Sp):Sp:=if Vj b fr Ef s then s else Ef
def a5j(l:List Sp)(a b:Sp):Sp:=
 match l with
 |[]=>(0,0)
 |h::r=>r.foldl (wh b (lp a b)) h
section
variable{P:Program}{K:PS→Prop}{s:PS}{r:List RI}{d:Option Nat}
theorem a27{g:Nat}{j2:List D}{own:Bool}{a x:D}(h2:iz P g (a::j2) x)(hx:x.flat=true)(h4:lk P r (s.put d (.d x)) K):Ey P g [.d a] j2 own d s (Ac P r K):=⟨[a],x,rfl,h2.toC,.inl hx,h4⟩
end
section
variable{P:Program}(A:Pr3 P)
theorem ara{es:List Ed}{O I:Adj}(s:Sp)(hs:SmL s)(hO:∀p∈O,p.2.length≤2^30∧∀q∈p.2,SmL q)(hI:∀p∈I,∀q∈p.2,SmL q)(h:∃a l,Cd s I=some (a::l)):iz P A.xp [.agg [Ss O,Ss I],yx s] (.bool (Vg O I s)):=by
 refine ec A.mo A.Ud (by simp) ?_;show kq P (G8 A.E9) (mb _ _) _;obtain⟨a,li,hi⟩:=h;have l1:=a5o s O;have l2:=a5o s I;rw[hi]at l2;rw[show yx s= .agg [.int ab s.1,.int ab s.2]from rfl];simp only[G8,Ss,go_sem,aa,ae,ah,PS.ents,ca,Cy,l1];unfold Vg;rw[hi]
 have other:∀l:List Sp,l.length≠1→(match l with|[b]=>sgn (fj (lp s a) (lp b s)) !=0|_=>true)=true:=by
  intro l hl
  match l with
  |[]=>rfl
  |[b]=>simp at hl
  |_::_::_=>rfl
 cases ho:Cd s O with
 |none=>
  simp only[go_sem,aa,reduceCtorEq,show((0:Int) !=1)=true from rfl]
 |some lo=>
  obtain⟨k,hk⟩:=Xp ho;obtain⟨hl,hm⟩:=hO _ hk
  match lo,ho,hl,hm with
  |[b],ho,hl,hm=>
   have hb:=hm b (by simp);obtain⟨k2,hk2⟩:=Xp hi;have ha:=hI _ hk2 a (by simp);have ht:=aAm A.toPr ha hs hb;simp only[yx]at ht;have e1:xf [b]= .gz 2 [[.int ab b.1,.int ab b.2]]:=rfl;have e2:xf (a::li)= .gz 2 ([.int ab a.1,.int ab a.2]::li.map C5):=rfl;simp only[go_sem,aa,ae,ah,reduceCtorEq,ho,e1,e2,bne_self_eq_false,ca,Cy,l1,l2];refine Gx ht ?_;simp only[go_sem,aa,reduceCtorEq]
  |[],ho,hl,hm=>
   have e1:xf []= .gz 2 []:=rfl;have h01:(((0:Nat):Int) !=1)=true:=rfl;simp only[go_sem,aa,kf,reduceCtorEq,e1]
  |x::y::z,ho,hl,hm=>
   have hn:(((z.length+1+1:Nat):Int) !=1)=true:=by simp;omega
   have e1:xf (x::y::z)= .gz 2 (C5 x::C5 y::z.map C5):=rfl;simp only[go_sem,aa,reduceCtorEq,e1,ag,hn]
theorem ard{O I:Adj}(s:Sp)(hs:SmL s)(hO:∀p∈O,p.2.length≤2^30∧∀q∈p.2,SmL q)(hI:∀p∈I,∀q∈p.2,SmL q)(h:∃a l,Cd s I=some (a::l)):iz P A.vz [.agg (C5 s),.uw [Ss O,Ss I] 0] (.bool (!Vg O I s)):=by
 refine ec A.mo A.Tm (by simp) ?_;show kq P (Fm A.xp) (mb _ _) _;have hc:=ara A (es:=[]) s hs hO hI h;simp only[yx]at hc;simp only[Fm,C5,go_sem,aa,ae];refine j5 hc ?_;simp only[go_sem,aa]
theorem alg(s b fr:Sp)(hs:SmL s)(hb:SmL b)(hf:SmP fr):iz P A.sf [yx s,.uw (C5 b) 0,.uw (C5 fr) 0] (.bool (decide (yz (lp s b) fr<0))):=by
 refine ec A.mo A.Uc (by simp) ?_;show kq P (G7 A.fm A.uc) (mb _ _) _;have h1:=Hm A.toPr hs.p hb.p;have h2:=aln A.toPr (hs.sub hb) hf;simp only[yx]at h1 h2;simp only[G7,yx,C5,go_sem,aa,ae];refine j5 h1 ?_;simp only[go_sem,aa,ae];refine j5 h2 ?_;simp only[go_sem,aa,reduceCtorEq]
end
section
variable{P:Program}(A:Pr3 P)
def a9j(f:Nat)(a b:Sp)(h:Sp)(r:List Sp)(k:Nat)(s':PS):Prop:=
 s'.base=0∧s'.tmp 5= .ie 5 (s'.av 5) 0∧s'.dc 5=some (.loc [.d (.int ab b.1),.d (.int ab b.2)])∧s'.tmp 6= .ie 6 (s'.av 6) 0∧s'.dc 6=some (.loc [.d (.int ab 0),.d (.int ab 0)])∧
 s'.tmp 10= .oq f [(5,s'.av 5),(9,s'.av 9)]∧s'.dc 9=some (.loc [.d (.int ab (a.1-b.1)),.d (.int ab (a.2-b.2))])∧
 s'.tmp 8= .ie 8 (s'.av 8) 0∧s'.dc 8=some (.loc [.d (.int ab ((r.take k).foldl (wh b (lp a b)) h).1),.d (.int ab ((r.take k).foldl (wh b (lp a b)) h).2)])
theorem ac9{a b h:Sp}{r:List Sp}(hh:SmL h)(hr:∀q∈r,SmL q):SmL (r.foldl (wh b (lp a b)) h):=by
 induction r generalizing h with
 |nil=>exact hh
 |cons x t ih=>
  rw[Aq];refine ih ?_ fun q hq=>hr q (by simp[hq]);unfold wh;split
  ·exact hr x (by simp)
  exact hh
theorem a8p{a b h:Sp}{r:List Sp}{k:Nat}(hk:k<r.length):(r.take (k+1)).foldl (wh b (lp a b)) h=wh b (lp a b) ((r.take k).foldl (wh b (lp a b)) h) (r.getD k (0,0)):=by
 rw[gl,pn];simp[hk,cw]
theorem aAn{O I:Adj}(a b h:Sp)(r:List Sp)(ha:SmL a)(hb:SmL b)(hh:SmL h)(hr:∀q∈r,SmL q)(hl:r.length≤2^30)(ho:Cd b O=some (h::r)):iz P A.zp [.agg [Ss O,Ss I],yx a,yx b] (yx (a5j (h::r) a b)):=by
 refine ec A.mo A.Xd (by simp) ?_;show kq P (Ik A.fm A.sf A.uc) (mb _ _) _;have l1:=a5o b O;rw[ho]at l1;have e1:xf (h::r)= .gz 2 ([.int ab h.1,.int ab h.2]::r.map C5):=rfl;have hm:=Hm A.toPr ha.p hb.p;simp only[yx,lp]at hm;rw[show yx a= .agg [.int ab a.1,.int ab a.2]from rfl,show yx b= .agg [.int ab b.1,.int ab b.2]from rfl];simp only[Ik,Ss,go_sem,aa,ae,ah,ca,Cy,l1,e1];refine j5 hm ?_
 have hlen:(1:Nat)≤r.length+1:=by omega
 have htk:(r.map C5).take r.length=r.map C5:=by rw[←ag (f:=C5)];exact eh
 simp only[go_sem,aa,ew,ed,ae,hlen,ag,htk];have kl:=ha.sub hb;refine we (fun s'=>a9j A.sf a b h r r.length s') ?_ ?_
 ·refine fp r.length (fun k s'=>a9j A.sf a b h r k s'∧s'.tmp 27= .d (.gz 2 (r.map C5))∧s'.tmp 28= .d (.int ab r.length)∧s'.tmp 29= .d (.int ab k)) ?_ ?_
  ·simp only[a9j,go_sem,aa,aIt]
  rintro k s' hk ⟨⟨eb,f5,b5,f6,b6,f10,b9,f8,b8⟩,f27,f28,f29⟩;by_cases hlt:(k:Int)<r.length
  ·have dq:k<r.length:=by omega
   have wk:=dh ((k:Int)+1) (by omega) (by omega);have hg:=Dl dq
   have hs:SmL (r.getD k (0,0)):=by
    have e:r.getD k (0,0)=r[k]:=by simp[cw,dq]
    rw[e];exact hr _ (df _)
   have atq:=ac9 (a:=a) (b:=b) hh (r:=r.take k) fun q hq=>hr q (Xr hq);have tn:=a8p (a:=a) (b:=b) (h:=h) dq
   generalize hB:(r.take k).foldl (wh b (lp a b)) h=Ef at*
   generalize hS:r.getD k (0,0)=s at*
   have n1:=alg A s b (lp a b) hs hb kl;have n2:=alg A Ef b (lp a b) atq hb kl;simp only[yx,C5,lp]at n1 n2;simp only[go_sem,aa,ae,reduceCtorEq,eb,b5,f10,b9,f27,f28,f29,hlt,hg,bp,ao,ju,oh];refine a27 n1 rfl ?_;simp only[go_sem,aa,ae,b5,f10,b9,f8,b8,ju,oh];refine a27 n2 rfl ?_;have m1:=Hm A.toPr hs.p hb.p;have m2:=Hm A.toPr atq.p hb.p;have an:=aln A.toPr (hs.sub hb) (atq.sub hb);simp only[yx,lp]at m1 m2 an;have b1:((true:Bool)==true)=true:=rfl;have b2:((false:Bool)==false)=true:=rfl;have b3:((false:Bool)==true)=false:=rfl;have b4:((true:Bool)==false)=false:=rfl
   have a2v:wh b (lp a b) Ef s=if(decide (yz (s.1-b.1,s.2-b.2) (a.1-b.1,a.2-b.2)<0)&& !decide (yz (Ef.1-b.1,Ef.2-b.2) (a.1-b.1,a.2-b.2)<0))||
     (decide (yz (s.1-b.1,s.2-b.2) (a.1-b.1,a.2-b.2)<0)==decide (yz (Ef.1-b.1,Ef.2-b.2) (a.1-b.1,a.2-b.2)<0)&&decide (0<yz (s.1-b.1,s.2-b.2) (Ef.1-b.1,Ef.2-b.2)))then s else Ef:=rfl
   by_cases hx:yz (s.1-b.1,s.2-b.2) (a.1-b.1,a.2-b.2)<0<;>by_cases hy:yz (Ef.1-b.1,Ef.2-b.2) (a.1-b.1,a.2-b.2)<0
   ·simp only[go_sem,aa,ae,f5,b5,hx,hy,b1];refine j5 m1 ?_;simp only[go_sem,aa,ae,f5,b5,f8,b8];refine j5 m2 ?_;simp only[go_sem,aa];refine j5 an ?_;by_cases h0:0<yz (s.1-b.1,s.2-b.2) (Ef.1-b.1,Ef.2-b.2)
    ·simp only[hx,hy,h0,decide_true,b1,aJu,aFr,qq,aK3,cz]at a2v;simp only[a9j,go_sem,aa,ae,reduceCtorEq,f5,b5,f6,b6,f10,b9,f8,b8,f27,f28,f29,h0,wk,dq,tn,a2v];simp
    simp only[hx,hy,h0,decide_true,decide_false,qq,W6,aFr,qq,fw,bn]at a2v;simp only[a9j,go_sem,aa,reduceCtorEq,f5,b5,f6,b6,f10,b9,f8,b8,f27,f28,f29,h0,wk,dq,tn,a2v];simp
   ·simp only[hx,hy,decide_true,decide_false,b4,M7,Hj,M6,cz]at a2v;simp only[a9j,go_sem,aa,ae,reduceCtorEq,f5,b5,f6,b6,f10,b9,f8,b8,f27,f28,f29,hx,hy,wk,dq,tn,a2v];simp
   ·simp only[hx,hy,decide_true,decide_false,b3,aFr,dz,W6,fw,bn]at a2v;simp only[a9j,go_sem,aa,reduceCtorEq,f5,b5,f6,b6,f10,b9,f8,b8,f27,f28,f29,hx,hy,b3,wk,dq,tn,a2v];simp
   simp only[go_sem,aa,ae,f5,b5,hx,hy,b2];refine j5 m1 ?_;simp only[go_sem,aa,ae,f5,b5,f8,b8];refine j5 m2 ?_;simp only[go_sem,aa];refine j5 an ?_;by_cases h0:0<yz (s.1-b.1,s.2-b.2) (Ef.1-b.1,Ef.2-b.2)
   ·simp only[hx,hy,h0,decide_true,decide_false,b2,Hj,aJu,M7,aK3,cz]at a2v;simp only[a9j,go_sem,aa,ae,reduceCtorEq,f5,b5,f6,b6,f10,b9,f8,b8,f27,f28,f29,h0,wk,dq,tn,a2v];simp
   simp only[hx,hy,h0,decide_false,qq,W6,M7,dz,qq,fw,bn]at a2v;simp only[a9j,go_sem,aa,reduceCtorEq,f5,b5,f6,b6,f10,b9,f8,b8,f27,f28,f29,h0,wk,dq,tn,a2v];simp
  have:k=r.length:=by omega
  subst this;simp only[a9j,go_sem,aa,reduceCtorEq,eb,f5,b5,f6,b6,f10,b9,f8,b8,f28,f29,hlt]
 rintro s' ⟨eb,f5,b5,f6,b6,f10,b9,f8,b8⟩;rw[eh]at b8;simp only[go_sem,aa,ae,eb,f6,b6,f8,b8,a5j];rfl
end
def a8i(l:List Sp)(i:Nat):List Sp:=l.drop i++l.take i
def Ya(l Ef:List Sp)(i:Nat):List Sp:=if Mq (a8i l i) Ef<0 then a8i l i else Ef
def M3(l:List Sp)(k:Nat):List Sp:=(dt k).foldl (Ya l) l
def Oc(O I:Adj)(l:List Sp):List Sp:=l.filter fun s=> !!Vg O I s
def Ki(O I:Adj)(l:List Sp):List Sp:=M3 (Oc O I l) (Oc O I l).length
theorem Sz(l:List Sp)(k:Nat):M3 l (k+1)=Ya l (M3 l k) k:=by
 unfold M3;rw[List.range_succ,pn];rfl
theorem Mr(l:List Sp)(k:Nat):(M3 l k).length=l.length:=by
 induction k with
 |zero=>rfl
 |succ k ih=>
  rw[Sz];unfold Ya;split
  ·simp only[a8i,db,yu,er];omega
  exact ih
theorem aps(m:Mem)(id av:Nat)(l:List Sp)(p:Sp→Bool)(hb:m.dc id=some (.arr 2 (l.map C5)))(hv:m.av id=av):
  ∃v,(Lm m id av l p).dc id=some (.arr 2 ((l.filter fun x=> !p x).map C5))∧(Lm m id av l p).av id=v∧a0v id av l p= .ref id v (l.filter fun x=> !p x).length∧
   (∀j,j≠id→(Lm m id av l p).dc j=m.dc j∧(Lm m id av l p).av j=m.av j)∧(Lm m id av l p).mp=m.mp:=by
 unfold Lm a0v;cases h:l.any p
 ·have hf:l.filter (fun x=> !p x)=l:=filter_none fun x hx=>by simpa using avh.1 h x hx
  simp only[fw,bn,hf];exact⟨av,hb,hv,rfl,fun j _=>⟨trivial,trivial⟩,trivial⟩
 simp only[cz];exact⟨av+1,by simp[Mem.put,cu],by simp[Mem.put,cu],rfl,fun j hj=>by simp[Mem.put,aj,hj],rfl⟩
theorem ame(l:List Sp):∀e∈l.map C5,e.all D.one=true:=by
 intro e he;obtain⟨p,_,rfl⟩:=gr.1 he;rfl
section
variable{P:Program}(A:Pr3 P)
theorem apo{K:PS→Prop}{s:PS}{r:List RI}{d:Option Nat}(l:List Sp)(hl:l.length≤2^30){id av b q qv:Nat}{g:Nat}{n1 n2:D}{p:Sp→Bool}(hb:s.dc id=some (.arr 2 (l.map C5)))(hv:s.av id=av)
  (ag6:s.dc (b+7)=none∧s.mp (b+7)=none)(hid:id≠b+7)(aC2:s.mp id=none)(hq:s.dc q=some (.loc [.d n1,.d n2]))(hqv:s.av q=qv)(hq1:q≠id)(hq2:q≠b+7)
  (hp:∀x∈l,iz P g [.agg (C5 x),.uw [n1,n2] 0] (.bool (p x)))
  (hK:∀(m':Mem) (v:Nat),m'.dc id=some (.arr 2 ((l.filter fun x=> !p x).map C5))→m'.av id=v→(∀j,j≠id→m'.dc j=s.dc j∧m'.av j=s.av j)→m'.mp=s.mp→lk P r ((s.j6 m').put d (.ref id v (l.filter fun x=> !p x).length)) K):
  agz P A.me [.ref id av l.length,.oq g [(q,qv)]] d s (Ac P r K):=by
 obtain⟨v,q1,q2,q3,q4,q5⟩:=aps s.mem id av l p hb hv;refine lr (abq A l hl hb hv ag6 hid aC2 hq hqv hq1 hq2 hp) ?_;rw[q3];exact hK _ v q1 q2 q4 q5
theorem alm{O I:Adj}(l:List Sp)(hne:l≠[])(hl:l.length≤2^20)(hs:∀s∈l,SmL s∧∃a li,Cd s I=some (a::li))(hO:∀p∈O,p.2.length≤2^30∧∀q∈p.2,SmL q)(hI:∀p∈I,∀q∈p.2,SmL q):
  iz P A.oo [.agg [Ss O,Ss I],xf l] (xf (Ki O I l)):=by
 refine ec A.mo A.Vy (by simp) ?_;show kq P (H9 A.fy A.vz A.me A.qb A.j8 A.ub) (mb _ _) _
 have a2x:l.map C5≠[]:=by simpa using hne
 simp only[H9,xf,go_sem,aa,ae];refine lr (aar A.mo A.B6 a2x (ame l) (by rw[ag];omega) _ 1000) ?_;simp only[go_sem,aa,ae,PS.j6,ag];refine apo A l (by omega) (id:=1005) (b:=2000) (q:=2) (n1:=Ss O) (n2:=Ss I) (p:=fun s=> !Vg O I s) (by simp[Mem.put,PS.mem,aj]) (by simp[Mem.put,PS.mem,aj]) (by simp[Mem.put,PS.mem,aj]) (by omega) (by simp[Mem.put,PS.mem]) (by simp[Mem.put,PS.mem,aj]) (by simp[Mem.put,PS.mem,aj]) (by omega) (by omega) ?_ ?_
 ·intro x hx;obtain⟨h1,h2⟩:=hs x hx;exact ard A x h1 hO hI h2
 intro m' v q1 q2 q3 q4;simp only[go_sem,aa,PS.j6];refine Tu [1005] ?_;simp only[am7,go_sem,aa,V.xc,C.xc,fb,l8,or_false,q1,q2,ag];have hFl:(Oc O I l).length≤l.length:=Dg _ _;have hFe:(l.filter fun x=> !!Vg O I x)=Oc O I l:=rfl;rw[hFe]at q1⊢;simp only[Ki]
 generalize Oc O I l=F at*
 refine we (fun s'=>s'.base=0∧s'.tmp 5= .d (.gz 2 ((M3 F F.length).map C5))) ?_ ?_
 ·refine fp F.length (fun i s'=>s'.base=0∧s'.tmp 1= .d (.gz 2 (F.map C5))∧s'.tmp 5= .d (.gz 2 ((M3 F i).map C5))∧s'.tmp 14= .d (.int ab F.length)∧s'.tmp 15= .d (.int ab i)) ?_ ?_
  ·simp only[go_sem,aa,q1,q2,ag];rfl
  rintro i s' hi ⟨eb,f1,f5,f14,f15⟩;by_cases hlt:(i:Int)<F.length
  ·have dq:i<F.length:=by omega
   have wi:=dh ((i:Int)+1) (by omega) (by omega)
   have hi1:i≤(F.map C5).length:=by rw[ag];omega
   have hfl:[F.drop i,F.take i].flatten=a8i F i:=by simp[a8i]
   have hrl:(a8i F i).length=F.length:=by simp only[a8i,db,yu,er];omega
   have hcc:=arl A [F.drop i,F.take i] (by rw[hfl];intro h;rw[h]at hrl;simp at hrl;omega) (by simp) (by rw[hfl,hrl];omega);have hcm:=Wa A (a8i F i) (M3 F i) (by rw[hrl];omega) (by rw[Mr];omega);rw[hfl]at hcc;have htk:aLs (F.map C5).length (F.map C5)=F.map C5:=eh;simp only[ku,xf,dr,gn]at hcc hcm;rw[aA9,Lr]at hcc;simp only[go_sem,aa,ae,ah,reduceCtorEq,di,eb,f1,f14,f15,hlt,bp,ao,hi1,htk,aCz];refine ft hcc ?_;simp only[go_sem,aa,f5];refine Gx hcm ?_;have tn:=Sz F i;unfold Ya at tn;by_cases hc:Mq (a8i F i) (M3 F i)<0
   ·rw[bd hc]at tn;simp only[go_sem,aa,reduceCtorEq,f1,f5,f14,f15,hc,wi,dq,tn];simp
   rw[al hc]at tn;simp only[go_sem,aa,reduceCtorEq,f1,f5,f14,f15,hc,wi,dq,tn];simp
  have:i=F.length:=by omega
  subst this;simp only[go_sem,aa,reduceCtorEq,eb,f5,f14,f15,hlt]
 rintro s' ⟨eb,f5⟩;simp only[go_sem,eb,f5];refine ft (Ux A.mo A.B6 (ame _) (by rw[ag,Mr];omega)) ?_;simp only[go_sem,aa]
end
structure azd{α:Type}(f:α→α→Int):Prop where
 sym:∀a b,f a b<0↔0<f b a
 zero:∀a b,f a b=0↔a=b
 trans:∀a b c,f a b<0→f b c<0→f a c<0
theorem a0y:azd Uw where
 sym a b:=by unfold Uw;split<;>split<;>(try split)<;>omega
 zero a b:=by unfold Uw;split<;>(try split)<;>omega
 trans a b c:=by
   unfold Uw;repeat' split
   all_goals omega
theorem Su{α:Type}{f:α→α→Int}(h:azd f):azd (B4 f):=by
 have sym:∀a b,B4 f a b<0↔0<B4 f b a:=by
  intro a
  induction a with
  |nil=>intro b;cases b<;>simp[B4]
  |cons x r ih=>
   intro b
   cases b with
   |nil=>simp[B4]
   |cons y t=>
    simp only[B4];have h1:=h.zero x y;have h2:=h.zero y x;have h3:=h.sym x y;have h4:=h.sym y x;by_cases e:f x y=0
    ·have e':f y x=0:=h2.2 (h1.1 e).symm;rw[bd e,bd e'];exact ih t
    have e':¬f y x=0:=fun q=>e (h1.2 (h2.1 q).symm);rw[al e,al e'];exact h3
 have zero:∀a b,B4 f a b=0↔a=b:=by
  intro a
  induction a with
  |nil=>intro b;cases b<;>simp[B4]
  |cons x r ih=>
   intro b
   cases b with
   |nil=>simp[B4]
   |cons y t=>
    simp only[B4];have h1:=h.zero x y;by_cases e:f x y=0
    ·rw[bd e,ih t,h1.1 e];simp
    rw[al e];constructor
    ·intro q;exact absurd q e
    intro q;injection q with q1 q2;exact absurd (h1.2 q1) e
 refine⟨sym,zero,?_⟩;intro a
 induction a with
 |nil=>
  intro b c h1 h2
  cases c with
  |nil=>cases b with
   |nil=>exact h1
   |cons y t=>simp[B4]at h2
  |cons z u=>simp[B4]
 |cons x r ih=>
  intro b c h1 h2
  cases b with
  |nil=>simp[B4]at h1
  |cons y t=>
   cases c with
   |nil=>simp[B4]at h2
   |cons z u=>
    simp only[B4]at h1 h2⊢;by_cases e1:f x y=0
    ·rw[bd e1]at h1;have:=(h.zero x y).1 e1;subst this;by_cases e2:f x z=0
     ·rw[bd e2]at h2⊢;exact ih t u h1 h2
     rw[al e2]at h2⊢;exact h2
    rw[al e1]at h1;by_cases e2:f y z=0
    ·have:=(h.zero y z).1 e2;subst this;rw[al e1];exact h1
    rw[al e2]at h2;have h3:=h.trans x y z h1 h2;rw[al (by omega)];exact h3
theorem Et:azd Mq:=by
 refine Su ⟨fun a b=>(Su a0y).sym _ _,fun a b=>?_,fun a b c=>(Su a0y).trans _ _ _⟩;rw[show Uv a b=B4 Uw [a.1,a.2] [b.1,b.2]from rfl,(Su a0y).zero];constructor
 ·intro h;simp at h;exact R1 h.1 h.2
 rintro rfl;rfl
def amj:List (List Sp)→Prop:=List.Pairwise fun a b=>¬(Mq b a<0)
theorem ail{a b:List Sp}(h1:¬(Mq b a<0))(h2:¬(Mq a b<0)):a=b:=by
 have:=Et.sym a b;exact(Et.zero a b).1 (by have:=Et.sym b a;omega)
theorem abu{a b:List (List Sp)}(hp:a.Perm b)(ha:amj a)(hb:amj b):a=b:=
 hp.eq_of_pairwise (fun x y _ _ h1 h2=>ail h1 h2) ha hb
def xh(ls:List (List Sp)):List (List Sp):=ls.mergeSort fun a b=>decide (¬(Mq b a<0))
theorem Bb(ls:List (List Sp)):(xh ls).Perm ls:=List.mergeSort_perm _ _
theorem ah8{a b c:List Sp}(h1:¬(Mq b a<0))(h2:¬(Mq c b<0)):¬(Mq c a<0):=by
 intro h;by_cases e:Mq b a=0
 ·have:=(Et.zero b a).1 e;subst this;exact h2 h
 have h3:Mq a b<0:=(Et.sym a b).2 (by omega);exact h2 (Et.trans c a b h h3)
theorem abb(ls:List (List Sp)):amj (xh ls):=by
 have h:=List.pairwise_mergeSort (le:=fun a b:List Sp=>decide (¬(Mq b a<0))) (fun a b c h1 h2=>by
  simp only[decide_eq_true_eq]at h1 h2⊢;exact ah8 h1 h2) (fun a b=>by
  have:=Et.sym a b
  simp only[Nr,decide_eq_true_eq];omega) ls
 exact h.imp fun h=>by simpa using h
end Go.PI
