/-
  The functions as plain partial functions, and plain lemmas about them: no condition.
-/
import Derived.Test.YtkmalfincghanaaGreatDoorPA
set_option linter.all false
namespace Go.Tm
variable {α β ρ σ:Type}
theorem wid {n:Int}(h1:-9223372036854775808≤n) (h2:n<9223372036854775808):wrapF .i64 n=n:=by
 unfold wrapF wrapS;simp only [cond_eq_ite,decide_eq_true_eq];split<;>omega
theorem wsucc {i:Nat}(h:i<4611686018427387904):wrapF .i64 ((i:Int)+1)=((i+1:Nat):Int):=by
 rw [wid (by omega) (by omega)];rfl
theorem idxN {l:List α}{i:Nat}(h:i<l.length):idx l (i:Int)=some l[i]:=by
 simp [idx,h]
theorem subhN {l:List α}{i:Nat}(h:i≤l.length):subh l (i:Int)=some (l.take i):=by
 unfold subh;rw [if_pos ⟨by omega,by simpa using h⟩];simp
theorem sublN {l:List α}{i:Nat}(h:i≤l.length):subl l (i:Int)=some (l.drop i):=by
 unfold subl;rw [if_pos ⟨by omega,by simpa using h⟩];simp
theorem appS {b:Nat}{l r:List α}(h:(l.length+r.length)*b≤140737488355328):app b l r=some (l++r):=if_pos (by omega)
theorem putN {l:List α}{i:Nat}{x:α}(h:i<l.length):put l (i:Int) x=some (l.set i x):=by
 unfold put;rw [if_pos ⟨by omega,by simpa using h⟩];simp
def ff (f:Nat→Option ρ):Nat→Option ρ
 |0=>none
 |n+1=>match f 0 with|some v=>some v|none=>ff (fun i=>f (i+1)) n
theorem ff_none {f:Nat→Option ρ}:∀{n:Nat},ff f n=none↔∀i,i<n→f i=none
 |0=>by simp [ff]
 |n+1=>by
  simp only [ff];constructor
  ·intro h i hi
   cases h0:f 0 with
   |some v=>simp [h0]at h
   |none=>
    simp only [h0]at h
    cases i with
    |zero=>exact h0
    |succ i=>exact(ff_none (f:=fun i=>f (i+1))).1 h i (by omega)
  ·intro h;rw [h 0 (by omega)];exact ff_none.2 fun i hi=>h (i+1) (by omega)
theorem ff_some {f:Nat→Option ρ}{v:ρ}:∀{n:Nat},ff f n=some v↔∃i,i<n∧f i=some v∧∀j,j<i→f j=none
 |0=>by simp [ff]
 |n+1=>by
  simp only [ff];constructor
  ·intro h
   cases h0:f 0 with
   |some w=>simp only [h0]at h;exact⟨0,by omega,by rw [h0,h],fun j hj=>by omega⟩
   |none=>
    simp only [h0]at h;obtain⟨i,h1,h2,h3⟩:=(ff_some (f:=fun i=>f (i+1))).1 h;exact⟨i+1,by omega,h2,fun j hj=>by cases j with|zero=>exact h0|succ j=>exact h3 j (by omega)⟩
  ·rintro ⟨i,h1,h2,h3⟩
   cases i with
   |zero=>rw [h2]
   |succ i=>
    rw [h3 0 (by omega)];exact ff_some.2 ⟨i,by omega,h2,fun j hj=>h3 (j+1) (by omega)⟩
def outR (b:β):Option ρ→β⊕ρ
 |none=>.inl b
 |some v=>.inr v
def goR (s:σ):Option ρ→Ex σ β ρ
 |none=>.go s
 |some v=>.ret v
theorem loopF {step:σ→Option (Ex σ β ρ)}{x0:σ}(S:Nat→σ) (f:Nat→Option ρ) (n:Nat) (b:β)
 (hgo:∀i,i<n→(∀j,j<i→f j=none)→step (S i)=some (goR (S (i+1)) (f i))) (hend:(∀j,j<n→f j=none)→step (S n)=some (.brk b)) (h0:x0=S 0:=by rfl) :
 loopO step x0=some (outR b (ff f n)):=by
 have key:∀k i,i+k=n→(∀j,j<i→f j=none)→loopO step (S i)=some (outR b (ff (fun j=>f (i+j)) k)):=by
  intro k
  induction k with
  |zero=>
   intro i hi hf;rw [Nat.add_zero]at hi;subst hi;rw [loopO_brk (hend hf)];rfl
  |succ k ih=>
   intro i hi hf;have hs:=hgo i (by omega) hf;simp only [ff,Nat.add_zero]
   cases h0:f i with
   |some v=>
    rw [h0]at hs;rw [loopO_ret hs];rfl
   |none=>
    rw [h0]at hs;rw [loopO_go hs,ih (i+1) (by omega) fun j hj=>by rcases Nat.lt_succ_iff_lt_or_eq.1 hj with h|rfl;exact hf j h;exact h0];simp only [Nat.add_assoc,Nat.add_comm 1]
 have:=key n 0 (by omega) (by omega);rw [h0];simpa using this
theorem loopG {step:σ→Option (Ex σ β ρ)}{x0:σ}(S:Nat→σ) (n:Nat) (b:β) (hgo:∀i,i<n→step (S i)=some (.go (S (i+1)))) (hend:step (S n)=some (.brk b)) (h0:x0=S 0:=by rfl):loopO step x0=some (.inl b):=by
 have key:∀k i,i+k=n→loopO step (S i)=some (.inl b):=by
  intro k
  induction k with
  |zero=>intro i hi;rw [Nat.add_zero]at hi;subst hi;exact loopO_brk hend
  |succ k ih=>intro i hi;rw [loopO_go (hgo i (by omega))];exact ih (i+1) (by omega)
 rw [h0];exact key n 0 (by omega)
theorem ff_any {l:List α}{q:α→Bool}{g:Nat→ρ}:(ff (fun i=>if (l[i]?.any q)=true then some (g i)else none) l.length).isSome=l.any q:=by
 rw [Bool.eq_iff_iff,Option.isSome_iff_exists,List.any_eq_true];constructor
 ·rintro ⟨v,hv⟩;obtain⟨i,h1,h2,-⟩:=ff_some.1 hv;rw [List.getElem?_eq_getElem h1]at h2;simp only [Option.any_some]at h2;split at h2
  ·exact⟨_,List.getElem_mem h1,by assumption⟩
  ·cases h2
 ·rintro ⟨x,hx,hq⟩;rw [←Option.isSome_iff_exists,←Option.not_isNone,Bool.not_eq_true',Option.isNone_eq_false_iff,Option.isSome_iff_ne_none];intro hn;obtain⟨i,hi,rfl⟩:=List.getElem_of_mem hx;have:=ff_none.1 hn i hi;rw [List.getElem?_eq_getElem hi]at this;simp [hq]at this
end Go.Tm
set_option maxRecDepth 10000
set_option maxHeartbeats 1000000
namespace Go.Proofs.Dev
open Go Go.Tm
def leapB (y:Int):Bool:=decide (y % 4=0)&&(!decide (y % 100=0) || decide (y % 400=0))
def dimS (y m:Int):Int:=if m=2 then (if leapB y=true then 29 else 28)else if m=4∨m=6∨m=9∨m=11 then 30 else 31
def monS (y:Int):Nat→Int
 |0=>0
 |n+1=>monS y n+dimS y (n+1)
def yearS:Nat→Int
 |0=>0
 |n+1=>yearS n+(if leapB (1900+n)=true then 366 else 365)
theorem tmod_pos {a b:Int}(h:0≤a):a.tmod b=a % b:=Int.tmod_eq_emod_of_nonneg h
theorem tdiv_pos {a b:Int}(h:0≤a):a.tdiv b=a / b:=Int.tdiv_eq_ediv_of_nonneg h
theorem date_IsLeap_s {y:Int}(h:0≤y):date_IsLeap y=some (leapB y):=by
 unfold date_IsLeap leapB;simp only [tmod_pos h];by_cases h1:y % 4=0<;>by_cases h2:y % 100=0<;>by_cases h3:y % 400=0<;>simp [h1,h2,h3]
theorem ref04_IsLeap_s {y:Int}(h:0≤y):ref04_IsLeap y=some (leapB y):=by
 unfold ref04_IsLeap leapB;simp only [tmod_pos h];by_cases h1:y % 4=0<;>by_cases h2:y % 100=0<;>by_cases h3:y % 400=0<;>simp [h1,h2,h3]
theorem date_DaysInMonth_s {y m:Int}(h:0≤y) (h1:1≤m) (h2:m≤12):date_DaysInMonth y m=some (dimS y m):=by
 unfold date_DaysInMonth dimS;rw [if_pos (by omega),Option.bind_some,if_neg (by simp;omega),date_IsLeap_s h];rw [wid (by omega) (by omega)];have:m=1∨m=2∨m=3∨m=4∨m=5∨m=6∨m=7∨m=8∨m=9∨m=10∨m=11∨m=12:=by omega
 rcases this with rfl|rfl|rfl|rfl|rfl|rfl|rfl|rfl|rfl|rfl|rfl|rfl<;>first|(cases leapB y<;>simp [idx,mL])|simp [idx,mL]
theorem ref04_DaysInMonth_s {y m:Int}(h:0≤y) (h1:1≤m) (h2:m≤12):ref04_DaysInMonth y m=some (dimS y m):=by
 unfold ref04_DaysInMonth dimS;rw [ref04_IsLeap_s h];have:m=1∨m=2∨m=3∨m=4∨m=5∨m=6∨m=7∨m=8∨m=9∨m=10∨m=11∨m=12:=by omega
 rcases this with rfl|rfl|rfl|rfl|rfl|rfl|rfl|rfl|rfl|rfl|rfl|rfl<;>first|(cases leapB y<;>simp)|simp
theorem dimS_le {y m:Int}:28≤dimS y m∧dimS y m≤31:=by
 unfold dimS;split
 ·split<;>omega
 ·split<;>omega
theorem monS_le {y:Int}:∀n,0≤monS y n∧monS y n≤31*n
 |0=>by simp [monS]
 |n+1=>by
  have:=monS_le (y:=y) n;have:=dimS_le (y:=y) (m:=n+1);simp only [monS];omega
theorem yearS_le:∀n,0≤yearS n∧yearS n≤366*n
 |0=>by simp [yearS]
 |n+1=>by
  have:=yearS_le n;simp only [yearS];split<;>omega
theorem yearS_eq:∀n:Nat,yearS n=365*n+((1899+n:Int) / 4-(1899+n:Int) / 100+(1899+n:Int) / 400)-460
 |0=>by simp [yearS]
 |n+1=>by
  simp only [yearS,yearS_eq n,leapB];by_cases h1:(1900+(n:Int)) % 4=0<;>by_cases h2:(1900+(n:Int)) % 100=0<;>by_cases h3:(1900+(n:Int)) % 400=0<;>simp [h1,h2,h3]<;>omega
theorem date_yearStart_s {n:Nat}(h:n≤1000):date_yearStart (1900+n)=some (yearS n):=by
 unfold date_yearStart date_leapYears;simp only [Option.bind_some];have e1:wrapF .i64 ((1900+(n:Int))-1)=1899+n:=by rw [wid (by omega) (by omega)];omega
 have e2:wrapF .i64 ((1900+(n:Int))-1900)=n:=by rw [wid (by omega) (by omega)];omega
 rw [e1,e2];rw [tdiv_pos (a:=1899+(n:Int)) (by omega),tdiv_pos (a:=1899+(n:Int)) (by omega),tdiv_pos (a:=1899+(n:Int)) (by omega)];rw [yearS_eq,wid (n:=(1899+(n:Int)) / 4) (by omega) (by omega),wid (n:=(1899+(n:Int)) / 100) (by omega) (by omega),wid (n:=(1899+(n:Int)) / 400) (by omega) (by omega)];have c1:Int.tdiv 1899 4=474:=by decide
 have c2:Int.tdiv 1899 100=18:=by decide
 have c3:Int.tdiv 1899 400=4:=by decide
 rw [c1,c2,c3];simp only [wid (n:=474) (by omega) (by omega),wid (n:=18) (by omega) (by omega),wid (n:=4) (by omega) (by omega),wid (n:=474-18) (by omega) (by omega),wid (n:=474-18+4) (by omega) (by omega)];rw [wid (n:=(1899+(n:Int)) / 4-(1899+(n:Int)) / 100) (by omega) (by omega)];rw [wid (n:=(1899+(n:Int)) / 4-(1899+(n:Int)) / 100+(1899+(n:Int)) / 400) (by omega) (by omega)];rw [wid (n:=(n:Int)*365) (by omega) (by omega)];rw [wid (n:=(n:Int)*365+((1899+(n:Int)) / 4-(1899+(n:Int)) / 100+(1899+(n:Int)) / 400)) (by omega) (by omega)];rw [wid (by omega) (by omega)];congr 1;omega
def firstS (n m:Nat):Int:=yearS n+monS (1900+n) m
theorem date_FromYMD_s {n m:Nat}(hn:n<300) (hm:m<12):date_FromYMD (1900+n) (m+1) 1=some (firstS n m,0):=by
 unfold date_FromYMD;have hy:=yearS_le n;have hd:=dimS_le (y:=1900+n) (m:=(m:Int)+1);rw [if_pos (by omega),if_pos (by omega),if_pos (by omega),if_pos (by omega),if_pos (by omega),date_DaysInMonth_s (by omega) (by omega) (by omega),Option.bind_some,Option.bind_some,if_neg (by simp;omega),date_yearStart_s (by omega),Option.bind_some];have e:loopO (date_FromYMD_L1 (1900+n) (m+1)) (yearS n,0)=some (.inl (firstS n m)):=loopG (step:=date_FromYMD_L1 (1900+n) (m+1)) (fun i=>(yearS n+monS (1900+n) i,(i:Int))) m (firstS n m) (fun i hi=>by
  unfold date_FromYMD_L1;dsimp only;rw [wid (n:=(m:Int)+1-1) (by omega) (by omega),if_pos (by omega),wsucc (by omega),date_DaysInMonth_s (by omega) (by omega) (by omega),Option.bind_some];have:=monS_le (y:=1900+n) i;have:=dimS_le (y:=1900+n) (m:=((i+1:Nat):Int));rw [wid (by omega) (by omega)];simp only [monS,Int.natCast_add,Int.natCast_one,Int.cast_ofNat_Int,Int.add_assoc]) (by
  unfold date_FromYMD_L1;dsimp only;rw [wid (n:=(m:Int)+1-1) (by omega) (by omega),if_neg (by omega)];rfl) (by simp [monS])
 rw [e];have:=monS_le (y:=1900+n) m;simp only [Option.bind_some,firstS];rw [wid (n:=yearS n+monS (1900+n) m+1) (by omega) (by omega),wid (by omega) (by omega)];congr 2;omega
theorem ref04_FromYMD_s {n m:Nat}(hn:n<300) (hm:m<12):ref04_FromYMD (1900+n) (m+1) 1=some (firstS n m,0):=by
 unfold ref04_FromYMD;have hd:=dimS_le (y:=1900+n) (m:=(m:Int)+1);rw [if_pos (by omega),if_pos (by omega),if_pos (by omega),ref04_DaysInMonth_s (by omega) (by omega) (by omega),Option.bind_some,Option.bind_some,if_neg (by simp;omega)];have e:loopO (ref04_FromYMD_L3 (1900+n)) (wrapF .i64 (1-1),1900)=some (.inl (yearS n)):=loopG (step:=ref04_FromYMD_L3 (1900+n)) (fun i=>(yearS i,1900+(i:Int))) n (yearS n) (fun i hi=>by
  unfold ref04_FromYMD_L3 ref04_daysInYear;dsimp only;have:=yearS_le i;rw [if_pos (by omega),ref04_IsLeap_s (by omega),Option.bind_some,wid (n:=1900+(i:Int)+1) (by omega) (by omega)];cases hb:leapB (1900+(i:Int))
  ·simp only [Bool.false_eq_true,if_false,Option.bind_some,yearS,hb];rw [wid (by omega) (by omega)];congr 3<;>omega
  ·simp only [if_true,Option.bind_some,yearS,hb];rw [wid (by omega) (by omega)];congr 3<;>omega) (by
  unfold ref04_FromYMD_L3;dsimp only;rw [if_neg (by omega)]) (by simp [yearS];decide)
 rw [e];have hy:=yearS_le n;have e2:loopO (ref04_FromYMD_L2 (1900+n) (m+1)) (yearS n,1)=some (.inl (firstS n m)):=loopG (step:=ref04_FromYMD_L2 (1900+n) (m+1)) (fun i=>(yearS n+monS (1900+n) i,(i:Int)+1)) m (firstS n m) (fun i hi=>by
  unfold ref04_FromYMD_L2;dsimp only;rw [if_pos (by omega),ref04_DaysInMonth_s (by omega) (by omega) (by omega),Option.bind_some];have:=monS_le (y:=1900+n) i;have:=dimS_le (y:=1900+n) (m:=(i:Int)+1);rw [wid (by omega) (by omega),wid (by omega) (by omega)];simp only [monS,Int.natCast_add,Int.natCast_one,Int.cast_ofNat_Int,Int.add_assoc]) (by
  unfold ref04_FromYMD_L2;dsimp only;rw [if_neg (by omega)];rfl) (by simp [monS])
 simp only [Option.bind_some];rw [e2];rfl
def rangeS (t:Int):GDateRange×Int:=if 0≤t∧t≤3599 then (⟨firstS (t.toNat / 12) (t.toNat % 12),firstS (t.toNat / 12) (t.toNat % 12)+dimS (1900+(t.toNat / 12:Nat)) ((t.toNat % 12:Nat)+1)⟩,0)else (⟨0,0⟩,3)
theorem rangeS_ok {t:Int}(h:(rangeS t).2=0):0≤(rangeS t).1.From∧(rangeS t).1.From<(rangeS t).1.To∧(rangeS t).1.To≤1000000:=by
 unfold rangeS at h⊢;split
 ·rename_i hc;have:=yearS_le (t.toNat / 12);have:=monS_le (y:=1900+((t.toNat / 12:Nat):Int)) (t.toNat % 12);have:=dimS_le (y:=1900+((t.toNat / 12:Nat):Int)) (m:=((t.toNat % 12:Nat):Int)+1);simp only [firstS];omega
 ·rename_i hc;rw [if_neg hc]at h;simp at h
theorem yearMonth {t:Int}(h1:0≤t) (h2:t≤3599):wrapF .i64 (1900+wrapF .i64 (t.tdiv 12))=1900+((t.toNat / 12:Nat):Int)∧wrapF .i64 (t.tmod 12+1)=((t.toNat % 12:Nat):Int)+1:=by
 rw [tdiv_pos h1,tmod_pos h1,wid (n:=t / 12) (by omega) (by omega),wid (by omega) (by omega),wid (by omega) (by omega)];omega
theorem month_valid_s (t:Int):month_valid t=some (decide (0≤t∧t≤3599)):=by
 unfold month_valid;by_cases h:0≤t<;>simp [h]
theorem ref07_valid_s (t:Int):ref07_valid t=some (decide (0≤t∧t≤3599)):=by
 unfold ref07_valid;by_cases h:0≤t<;>simp [h]
theorem month_Range_s (t:Int):month_Range t=some (rangeS t):=by
 unfold month_Range month_Days rangeS;rw [month_valid_s,Option.bind_some];by_cases h:0≤t∧t≤3599
 ·obtain⟨e1,e2⟩:=yearMonth h.1 h.2;have hn:t.toNat / 12<300:=by omega
  have hm:t.toNat % 12<12:=by omega
  have:=yearS_le (t.toNat / 12);have:=monS_le (y:=1900+((t.toNat / 12:Nat):Int)) (t.toNat % 12);have:=dimS_le (y:=1900+((t.toNat / 12:Nat):Int)) (m:=((t.toNat % 12:Nat):Int)+1);rw [if_neg (by simp [h]),e1,e2,date_FromYMD_s hn hm,Option.bind_some];simp only [if_neg (show¬(decide (0≤t∧t≤3599)=false) by simp [h]),Option.bind_some,date_DaysInMonth_s (y:=1900+((t.toNat / 12:Nat):Int)) (m:=((t.toNat % 12:Nat):Int)+1) (by omega) (by omega) (by omega),if_pos h];rw [if_neg (by simp),wid (by simp only [firstS];omega) (by simp only [firstS];omega)]
 ·rw [if_pos (by simpa using h),if_neg h]
theorem ref07_Range_s (t:Int):ref07_Range t=some (rangeS t):=by
 unfold ref07_Range ref07_Days rangeS;rw [ref07_valid_s,Option.bind_some];by_cases h:0≤t∧t≤3599
 ·obtain⟨e1,e2⟩:=yearMonth h.1 h.2;have hn:t.toNat / 12<300:=by omega
  have hm:t.toNat % 12<12:=by omega
  have:=yearS_le (t.toNat / 12);have:=monS_le (y:=1900+((t.toNat / 12:Nat):Int)) (t.toNat % 12);have:=dimS_le (y:=1900+((t.toNat / 12:Nat):Int)) (m:=((t.toNat % 12:Nat):Int)+1);rw [if_neg (by simp [h]),e1,e2,ref04_FromYMD_s hn hm,Option.bind_some];simp only [if_neg (show¬(decide (0≤t∧t≤3599)=false) by simp [h]),Option.bind_some,ref04_DaysInMonth_s (y:=1900+((t.toNat / 12:Nat):Int)) (m:=((t.toNat % 12:Nat):Int)+1) (by omega) (by omega) (by omega),if_pos h];rw [wid (by simp only [firstS];omega) (by simp only [firstS];omega)]
 ·rw [if_pos (by simpa using h),if_neg h]
end Go.Proofs.Dev
namespace Go.Proofs.Dev
open Go Go.Tm
def lowB (c:Int):Bool:=decide (97≤c)&&decide (c≤122)
def digB (c:Int):Bool:=decide (48≤c)&&decide (c≤57)
def wordB (c:Int):Bool:=lowB c || digB c || c==95
def wordAt (s:ByteArray) (i:Nat):Bool:=if h:i<s.size then wordB (s[i].toNat:Int)else false
def allWord (s:ByteArray):Bool:=(ff (fun i=>if wordAt s i=true then none else some ()) s.size).isNone
noncomputable def resL:List ByteArray:=(ref08_Reserved).getD []
noncomputable def identB (s:ByteArray):Bool:=if h:0<s.size∧s.size≤16 then lowB (s[0].toNat:Int)&&allWord s&&!(resL.any fun r=>decide (s=r))else false
end Go.Proofs.Dev
namespace Go.Proofs.Dev
open Go Go.Tm
def validTypeB (t:GType) (e:List GEnum):Bool:=
 if t.Kind=6 then decide (0≤t.Enum)&&decide (t.Enum<(e.length:Int))else decide (1≤t.Kind)&&decide (t.Kind≤5)&&(t.Enum==0)
noncomputable def bnd (t:GType) (e:List GEnum):Int×Int:=(ref09_Bounds t e).getD (0,0)
noncomputable def inB (n:Int) (t:GType) (e:List GEnum):Bool:=decide ((bnd t e).1≤n)&&decide (n≤(bnd t e).2)
def vrB (r:GDateRange):Bool:=decide (0≤r.From)&&(decide (r.From≤r.To)&&decide (r.To≤109573))
def confB (a b:GRow):Bool:=vrB a.Valid&&vrB b.Valid&&decide (max a.Valid.From b.Valid.From<min a.Valid.To b.Valid.To)&&decide (max a.Lo b.Lo<min a.Hi b.Hi)
noncomputable def wrongB (x:GRow) (t:GTable) (e:List GEnum):Bool:=
 !(vrB x.Valid) || decide (x.Valid.From=x.Valid.To) || decide (x.Hi≤x.Lo) || !(inB x.Lo t.Key e) || !(inB (wrapF .i64 (x.Hi-1)) t.Key e) || !(inB x.N t.Value e)
noncomputable def rowF (t:GTable) (e:List GEnum) (i:Nat):Option (Int×Int):=
 match t.Rows[i]? with
 |some x=>if wrongB x t e=true then some ((i:Int),3)else if ((t.Rows.take i).any fun y=>confB y x)=true then some ((i:Int),11)else none
 |none=>none
noncomputable def tableV (t:GTable) (e:List GEnum):Int×Int:=
 if 64<t.Rows.length then (64,4)else if (validTypeB t.Key e&&validTypeB t.Value e)=false then (-1,8)else (ff (rowF t e) t.Rows.length).getD (0,0)
end Go.Proofs.Dev
namespace Go.Proofs.Dev
open Go Go.Tm
def arityS (op:Int):Int:=
 if (1≤op∧op≤9)∨(35≤op∧op≤39)then 0
 else if op=10∨op=25∨(31≤op∧op≤34)then 1
 else if op=26 then 3
 else if 11≤op∧op≤30 then 2 else -1
def NodeOk (n:GNode):Prop:=-9223372036854775808≤n.N∧n.N≤9223372036854775807
end Go.Proofs.Dev
namespace Go.Proofs.Dev
open Go Go.Tm
end Go.Proofs.Dev
namespace Go.Proofs.Dev
open Go Go.Tm
end Go.Proofs.Dev
namespace Go.Proofs.Dev
open Go Go.Tm
def ndAt (e:List GNode) (i:Nat):GNode:=(e[i]?).getD ⟨0,0⟩
def stk (e:List GNode):Nat→List Int×List Int
 |0=>([],[])
 |i+1=>
  let p:=stk e i
  let a:=(arityS (ndAt e i).Op).toNat
  let f:=if 0<a then (p.2[p.2.length-a]?).getD 0 else (i:Int)
  (p.1++[f],p.2.take (p.2.length-a)++[f])
def errAt (e:List GNode) (i:Nat):Option (List Int×Int×Int):=
 if arityS (ndAt e i).Op<0 then some ([],(i:Int),2)
 else if ((stk e i).2.length:Int)<arityS (ndAt e i).Op then some ([],(i:Int),5)
 else if 12<(stk e (i+1)).2.length then some ([],(i:Int),16)else none
def structS (e:List GNode):List Int×Int×Int:=
 if 48<e.length then ([],0,4)else if e.length=0 then ([],0,5)
 else match ff (errAt e) e.length with
  |some v=>v
  |none=>if 1<(stk e e.length).2.length then ([],(e.length:Int),4)else ((stk e e.length).1,0,0)
end Go.Proofs.Dev
namespace Go.Proofs.Dev
open Go Go.Tm
def arN (e:List GNode) (i:Nat):Nat:=(arityS (ndAt e i).Op).toNat
noncomputable def resAt (e:List GNode) (s:GSignature) (st:List GType) (i:Nat):GType×Int:=(ref10_Result (ndAt e i) (st.drop (st.length-arN e i)) s).getD (⟨0,0⟩,0)
noncomputable def tys (e:List GNode) (s:GSignature):Nat→List GType
 |0=>[]
 |i+1=>(tys e s i).take ((tys e s i).length-arN e i)++[(resAt e s (tys e s i) i).1]
noncomputable def terr (e:List GNode) (s:GSignature) (i:Nat):Option (GType×Int×Int):=
 if (resAt e s (tys e s i) i).2=0 then none else some (⟨0,0⟩,(i:Int),(resAt e s (tys e s i) i).2)
noncomputable def typeS (e:List GNode) (s:GSignature):GType×Int×Int:=
 if (structS e).2.2=0 then (match ff (terr e s) e.length with|some v=>v|none=>((tys e s e.length)[0]?.getD ⟨0,0⟩,0,0))else (⟨0,0⟩,(structS e).2.1,(structS e).2.2)
end Go.Proofs.Dev
namespace Go.Tm
theorem mem_insS {x n:Int}:∀{l:List Int},x∈insS l n↔x∈l∨x=n
 |[]=>by simp [insS]
 |y::l=>by
  simp only [insS];split
  ·split
   ·simp only [List.mem_cons];constructor
    ·rintro (h|h|h)
     ·exact .inr h
     ·exact .inl (.inl h)
     ·exact .inl (.inr h)
    ·rintro ((h|h)|h)
     ·exact .inr (.inl h)
     ·exact .inr (.inr h)
     ·exact .inl h
   ·have:n=y:=by omega
    simp only [List.mem_cons];constructor
    ·exact .inl
    ·rintro (h|h)
     ·exact h
     ·exact .inl (h.trans this)
  ·simp only [List.mem_cons,mem_insS (l:=l)];constructor
   ·rintro (h|h|h)
    ·exact .inl (.inl h)
    ·exact .inl (.inr h)
    ·exact .inr h
   ·rintro ((h|h)|h)
    ·exact .inl h
    ·exact .inr (.inl h)
    ·exact .inr (.inr h)
abbrev Inc (l:List Int):Prop:=l.Pairwise (·<·)
theorem inc_insS {n:Int}:∀{l:List Int},Inc l→Inc (insS l n)
 |[],_=>by simp [insS]
 |y::l,h=>by
  have h':=List.pairwise_cons.1 h;simp only [insS];split
  ·split
   ·refine List.pairwise_cons.2 ⟨fun z hz=>?_,h⟩;rcases List.mem_cons.1 hz with rfl|hz
    ·assumption
    ·have:=h'.1 z hz;omega
   ·exact h
  ·refine List.pairwise_cons.2 ⟨fun z hz=>?_,inc_insS h'.2⟩;rcases mem_insS.1 hz with hz|rfl
   ·exact h'.1 z hz
   ·omega
theorem len_insS {n:Int}:∀{l:List Int},(insS l n).length≤l.length+1
 |[]=>by simp [insS]
 |y::l=>by
  simp only [insS];split
  ·split<;>simp
  ·have:=len_insS (n:=n) (l:=l);simp;omega
theorem loopL {α A β ρ:Type}{step:A×Int→Option (Ex (A×Int) β ρ)}(xs:List α) (f:A→α→A) (a0:A) (b:β) {x0:A×Int}(hx:x0=(a0,0))
 (hgo:∀(i:Nat) (hi:i<xs.length),step ((xs.take i).foldl f a0,(i:Int))=some (.go (f ((xs.take i).foldl f a0) xs[i],((i+1:Nat):Int)))) (hend:step (xs.foldl f a0,(xs.length:Int))=some (.brk b)) :
 loopO step x0=some (.inl b):=by
 refine loopG (fun i=>((xs.take i).foldl f a0,(i:Int))) xs.length b (fun i hi=>?_) ?_ (by subst hx;rfl)
 ·rw [hgo i hi,List.take_add_one,List.foldl_append,List.getElem?_eq_getElem hi];rfl
 ·rw [List.take_length];exact hend
end Go.Tm
namespace Go.Proofs.Dev
open Go Go.Tm
end Go.Proofs.Dev
namespace Go.Tm
theorem dsort_inv (l:List Int):Inc (dsort l)∧(dsort l).length≤l.length∧∀x,x∈dsort l↔x∈l:=by
 have key:∀(l a:List Int),Inc a→Inc (l.foldl insS a)∧(l.foldl insS a).length≤a.length+l.length∧∀x,x∈l.foldl insS a↔x∈a∨x∈l:=by
  intro l
  induction l with
  |nil=>intro a h;exact⟨h,by simp,fun x=>by simp⟩
  |cons y l ih=>
   intro a h;obtain⟨h1,h2,h3⟩:=ih (insS a y) (inc_insS h);have:=len_insS (n:=y) (l:=a);refine⟨h1,by simp only [List.foldl_cons,List.length_cons];omega,fun x=>?_⟩;simp only [List.foldl_cons];rw [h3 x,mem_insS,List.mem_cons,or_assoc]
 obtain⟨h1,h2,h3⟩:=key l [] (by simp);exact⟨h1,by simpa [dsort] using h2,fun x=>by simpa [dsort] using h3 x⟩
theorem inc_ext:∀{a b:List Int},Inc a→Inc b→(∀x,x∈a↔x∈b)→a=b
 |[],[],_,_,_=>rfl
 |[],y::b,_,_,h=>by have:=(h y).2 (by simp);simp at this
 |x::a,[],_,_,h=>by have:=(h x).1 (by simp);simp at this
 |x::a,y::b,ha,hb,h=>by
  have ha':=List.pairwise_cons.1 ha;have hb':=List.pairwise_cons.1 hb;have hxy:x=y:=by
   have h1:=(h x).1 (by simp);have h2:=(h y).2 (by simp);rcases List.mem_cons.1 h1 with h1|h1
   ·exact h1
   ·rcases List.mem_cons.1 h2 with h2|h2
    ·exact h2.symm
    ·have:=ha'.1 y h2;have:=hb'.1 x h1;omega
  subst hxy;rw [inc_ext ha'.2 hb'.2 fun z=>?_];constructor
  ·intro hz;rcases List.mem_cons.1 ((h z).1 (by simp [hz]))with rfl|h1
   ·have:=ha'.1 z hz;omega
   ·exact h1
  ·intro hz;rcases List.mem_cons.1 ((h z).2 (by simp [hz]))with rfl|h1
   ·have:=hb'.1 z hz;omega
   ·exact h1
end Go.Tm
namespace Go.Proofs.Dev
open Go Go.Tm
def dfl (p:GNode→Bool) (e:List GNode):List Int:=dsort ((e.filter p).map (·.N))
def isDef (n:GNode):Bool:=n.Op==8
theorem inc_ext:∀{a b:List Int},Inc a→Inc b→(∀x,x∈a↔x∈b)→a=b
 |[],[],_,_,_=>rfl
 |[],y::b,_,_,h=>by have:=(h y).2 (by simp);simp at this
 |x::a,[],_,_,h=>by have:=(h x).1 (by simp);simp at this
 |x::a,y::b,ha,hb,h=>by
  obtain⟨ha1,ha2⟩:=List.pairwise_cons.1 ha;obtain⟨hb1,hb2⟩:=List.pairwise_cons.1 hb;have hxy:x=y:=by
   have h1:=(h x).1 (by simp);have h2:=(h y).2 (by simp);simp only [List.mem_cons]at h1 h2;rcases h1 with h1|h1
   ·exact h1
   ·rcases h2 with h2|h2
    ·exact h2.symm
    ·have:=ha1 y h2;have:=hb1 x h1;omega
  subst hxy;rw [inc_ext ha2 hb2 fun z=>?_];have hz:=h z;simp only [List.mem_cons]at hz;constructor
  ·intro h1;rcases hz.1 (.inr h1)with h2|h2
   ·subst h2;have:=ha1 z h1;omega
   ·exact h2
  ·intro h1;rcases hz.2 (.inr h1)with h2|h2
   ·subst h2;have:=hb1 z h1;omega
   ·exact h2
theorem compU {d:Array Int}(hs:∀i j,i<j→j<d.size→d[i]!≤d[j]!):∀m,m≤d.size→Inc (Go.Lib.compactUpTo d m)∧∀x,x∈Go.Lib.compactUpTo d m↔∃i,i<m∧d[i]! = x
 |0,_=>⟨by simp [Go.Lib.compactUpTo,Inc],by simp [Go.Lib.compactUpTo]⟩
 |m+1,hm=>by
  obtain⟨ih1,ih2⟩:=compU hs m (by omega);have hle:∀i,i<m→d[i]!≤d[m-1]!:=by
   intro i hi;by_cases h:i=m-1
   ·rw [h];exact Int.le_refl _
   ·exact hs i (m-1) (by omega) (by omega)
  rw [Go.Lib.compactUpTo_succ];by_cases hk:Go.Lib.keeps d m=true
  ·rw [if_pos hk];refine⟨?_,fun x=>?_⟩
   ·unfold Inc;rw [List.pairwise_append];refine⟨ih1,by simp,fun a ha c hc=>?_⟩;obtain⟨i,hi,rfl⟩:=(ih2 a).1 ha;obtain rfl:=List.mem_singleton.1 hc;have hne:d[m]!≠d[m-1]!:=by
     have:=of_decide_eq_true hk;rcases this with h|h
     ·omega
     ·exact h
    have h1:=hle i hi;have h2:=hs (m-1) m (by omega) (by omega);omega
   ·rw [List.mem_append,ih2,List.mem_singleton];constructor
    ·rintro (⟨i,hi,rfl⟩|rfl)
     ·exact⟨i,by omega,rfl⟩
     ·exact⟨m,by omega,rfl⟩
    ·rintro ⟨i,hi,rfl⟩;by_cases h:i=m
     ·subst h;exact .inr rfl
     ·exact .inl ⟨i,by omega,rfl⟩
  ·rw [if_neg hk,List.append_nil];refine⟨ih1,fun x=>?_⟩;rw [ih2];have hk':Go.Lib.keeps d m=false:=by simpa using hk
   have hmm:¬(m=0∨d[m]!≠d[m-1]!):=of_decide_eq_false hk';constructor
   ·rintro ⟨i,hi,rfl⟩;exact⟨i,by omega,rfl⟩
   ·rintro ⟨i,hi,rfl⟩;by_cases h:i=m
    ·subst h;refine⟨i-1,by omega,?_⟩;by_cases h2:d[i]! = d[i-1]!
     ·exact h2.symm
     ·exact absurd (.inr h2) hmm
    ·exact⟨i,by omega,rfl⟩
theorem compact_msort (l:List Int):Go.Lib.compact (l.mergeSort fun x y=>decide (x≤y))=dsort l:=by
 have hp:=List.pairwise_mergeSort (le:=fun(x y:Int)=>decide (x≤y)) (fun a b c h1 h2=>by simp at h1 h2⊢;omega) (fun a b=>by simp;omega) l;have hm:∀x,x∈(l.mergeSort fun x y=>decide (x≤y))↔x∈l:=fun x=>List.mem_mergeSort;generalize (l.mergeSort fun x y=>decide (x≤y))=q at *;obtain⟨h1,h2⟩:=compU (d:=q.toArray) (fun i j hij hj=>by
  have hj':j<q.length:=by simpa using hj
  have:=List.pairwise_iff_getElem.1 hp i j (by omega) hj' hij;simp at this;rw [getElem!_pos q.toArray i (by simp;omega),getElem!_pos q.toArray j hj];simpa using this) q.length (by simp)
 obtain⟨g1,-,g2⟩:=dsort_inv l;refine inc_ext h1 g1 fun x=>?_;unfold Go.Lib.compact;rw [h2,g2,←hm x];constructor
 ·rintro ⟨i,hi,rfl⟩;rw [getElem!_pos q.toArray i (by simpa using hi)];simp
 ·intro h;obtain⟨i,hi,rfl⟩:=List.mem_iff_getElem.1 h;exact⟨i,hi,by rw [getElem!_pos q.toArray i (by simpa using hi)];simp⟩
def ruleRefs (r:GRule):List Int:=dfl isDef r.Guard++dfl isDef r.Value
def DRef (s:GScope) (d x:Int):Prop:=(0≤d∧d<(s.Defs.length:Int))∧(0≤x∧x<(s.Defs.length:Int))∧∃r∈s.Rules,r.Def=d∧x∈ruleRefs r
end Go.Proofs.Dev
namespace Go.Tm
end Go.Tm
namespace Go.Proofs.Dev
open Go Go.Tm
inductive Way (s:GScope):Int→Int→Prop
 |one {a b:Int} (h:DRef s a b):Way s a b
 |step {a b c:Int} (h:Way s a b) (h2:DRef s b c):Way s a c
end Go.Proofs.Dev
namespace Go.Proofs.Dev
open Go Go.Tm
end Go.Proofs.Dev
namespace Go.Proofs.Dev
open Go Go.Tm
noncomputable def memF (x:GEnum) (k:Nat):Option (Int×Int):=
 match x.Members[k]? with
 |some m=>if identB m=false then some (2,100+(k:Int))else if ((x.Members.take k).any fun y=>decide (y=m))=true then some (7,100+(k:Int))else none
 |none=>none
noncomputable def enumE (l:GLaw) (i:Nat) (x:GEnum):Int×Int:=
 if identB x.Name=false then (2,0)else if ((l.Enums.take i).any fun y=>decide (y.Name=x.Name))=true then (7,0)
 else if x.Members.length=0 then (5,0)else if 16<x.Members.length then (4,116)else (ff (memF x) x.Members.length).getD (0,0)
noncomputable def tabE (l:GLaw) (i:Nat) (x:GTable):Int×Int:=
 if identB x.Name=false then (2,0)
 else if ((l.Enums.any fun y=>decide (y.Name=x.Name)) || (l.Tables.take i).any fun y=>decide (y.Name=x.Name))=true then (7,0)
 else if (tableV x l.Enums).2=0 then (0,0)else ((tableV x l.Enums).2,if (tableV x l.Enums).1 = -1 then 0 else 100+(tableV x l.Enums).1)
noncomputable def fieldE (l:GLaw) (f:GField) (a b:List GField):Int:=
 if identB f.Name=false then 2 else if ((a.any fun y=>decide (y.Name=f.Name)) || b.any fun y=>decide (y.Name=f.Name))=true then 7 else if validTypeB f.Type_ l.Enums=false then 8 else 0
def sigS (l:GLaw) (s:GScope):GSignature:=
 if h:0≤s.MemberScope∧s.MemberScope<(l.Scopes.length:Int)then ⟨l.Enums,l.Tables,s.Inputs.map (·.Type_),s.Defs.map (·.Type_),(l.Scopes[s.MemberScope.toNat]'(by omega)).Defs.map (·.Type_),true⟩
 else ⟨l.Enums,l.Tables,s.Inputs.map (·.Type_),s.Defs.map (·.Type_),[],false⟩
def srcAt (s:ByteArray) (i:Nat):Bool:=if h:i<s.size then decide (32≤(s[i].toNat:Int))&&decide ((s[i].toNat:Int)≤126)&&!((s[i].toNat:Int)==34)else true
def srcB (s:ByteArray):Bool:=decide (s.size≤64)&&(ff (fun i=>if srcAt s i=true then none else some false) s.size).isNone
end Go.Proofs.Dev
namespace Go.Proofs.Dev
open Go Go.Tm
noncomputable def typeE (e:List GNode) (s:GSignature) (t:GType):Int:=
 if¬(typeS e s).2.2=0 then (typeS e s).2.2 else if¬((typeS e s).1.Kind=t.Kind∧(typeS e s).1.Enum=t.Enum)then 8 else 0
def sibs (x:GScope) (k:Nat) (r:GRule):Nat:=((x.Rules.take k).filter fun y=>decide (y.Def=r.Def)).length
def parBad (x:GScope) (k:Nat) (r:GRule):Bool:=
 if r.Parent = -1 then false else if r.Parent<0 then true else if (k:Int)≤r.Parent then true else match x.Rules[r.Parent.toNat]? with|some q=>q.Def !=r.Def|none=>true
noncomputable def ruleE (x:GScope) (s:GSignature) (k:Nat) (r:GRule):Int:=
 if identB r.Name=false then 2
 else if ((x.Rules.take k).any fun y=>decide (y.Name=r.Name))=true then 7
 else if r.Def<0∨(x.Defs.length:Int)≤r.Def then 6
 else if parBad x k r=true then 9
 else if r.Priority<0∨9<r.Priority∨r.Valid.From<0∨r.Valid.To≤r.Valid.From∨109573<r.Valid.To then 3
 else if 8≤sibs x k r then 4
 else if srcB r.Source=false then 2
 else if 0<r.Guard.length∧typeE r.Guard s ⟨1,0⟩≠0 then typeE r.Guard s ⟨1,0⟩
 else typeE r.Value s (match x.Defs[r.Def.toNat]? with|some d=>d.Type_|none=>⟨0,0⟩)
structure RuleOk (r:GRule):Prop where
 nm:r.Name.size≤1048576
 src:r.Source.size≤1048576
 g:∀n∈r.Guard,NodeOk n
 v:∀n∈r.Value,NodeOk n
end Go.Proofs.Dev
namespace Go.Proofs.Dev
open Go Go.Tm
noncomputable def inF (l:GLaw) (x:GScope) (k:Nat):Option (Int×Int):=
 match x.Inputs[k]? with
 |some f=>if fieldE l f (x.Inputs.take k) []=0 then none else some (fieldE l f (x.Inputs.take k) [],100+(k:Int))
 |none=>none
noncomputable def defF (l:GLaw) (x:GScope) (k:Nat):Option (Int×Int):=
 match x.Defs[k]? with
 |some f=>if fieldE l f x.Inputs (x.Defs.take k)=0 then none else some (fieldE l f x.Inputs (x.Defs.take k),200+(k:Int))
 |none=>none
noncomputable def rulF (l:GLaw) (x:GScope) (k:Nat):Option (Int×Int):=
 match x.Rules[k]? with
 |some r=>if ruleE x (sigS l x) k r=0 then none else some (ruleE x (sigS l x) k r,300+(k:Int))
 |none=>none
open Classical in
noncomputable def cycF (x:GScope) (k:Nat):Option (Int×Int):=if Way x (k:Int) (k:Int)then some (9,200+(k:Int))else none
def memBad (l:GLaw) (i:Nat) (x:GScope):Bool:=
 if x.MemberScope = -1 then false else if x.MemberScope<0 then true else if (i:Int)≤x.MemberScope then true else match l.Scopes[x.MemberScope.toNat]? with|some q=>q.MemberScope !=-1|none=>true
noncomputable def scopeE (l:GLaw) (i:Nat) (x:GScope):Int×Int:=
 if identB x.Name=false then (2,0)
 else if ((l.Enums.any fun y=>decide (y.Name=x.Name)) || ((l.Tables.any fun y=>decide (y.Name=x.Name)) || (l.Scopes.take i).any fun y=>decide (y.Name=x.Name)))=true then (7,0)
 else if memBad l i x=true then (6,0)
 else if 12<x.Inputs.length then (4,112)
 else if 12<x.Defs.length then (4,212)
 else match ff (inF l x) x.Inputs.length with
  |some v=>v
  |none=>match ff (defF l x) x.Defs.length with
   |some v=>v
   |none=>match ff (rulF l x) x.Rules.length with
    |some v=>v
    |none=>(ff (cycF x) x.Defs.length).getD (0,0)
end Go.Proofs.Dev
namespace Go.Proofs.Dev
open Go Go.Tm
end Go.Proofs.Dev
namespace Go.Proofs.Dev
open Go Go.Tm
structure Valid (l:GLaw):Prop where
 e:∀i (h:i<l.Enums.length),(enumE l i l.Enums[i]).1=0
 t:∀i (h:i<l.Tables.length),(tabE l i l.Tables[i]).1=0
 s:∀i (h:i<l.Scopes.length),(scopeE l i l.Scopes[i]).1=0
 ne:l.Enums.length≤8
 nt:l.Tables.length≤8
 ns:l.Scopes.length≤4
end Go.Proofs.Dev
namespace Go.Proofs.Dev
open Go Go.Tm
theorem badLoop {n:Nat}(hn:n≤1048576) (bad:Nat→Bool) {step:Int→Option (Ex Int Unit Bool)}(hstep:∀i:Nat,i<n→step (i:Int)=if bad i=true then some (.ret false)else some (.go (wrapF .i64 ((i:Int)+1)))) (hend:step (n:Int)=some (.brk ())) :
 (loopO step 0=some (.inr false))∨(loopO step 0=some (.inl ())∧∀i,i<n→bad i=false):=by
 have h:=loopF (step:=step) (x0:=0) (fun i=>(i:Int)) (fun i=>if bad i=true then some false else none) n () (fun i hi _=>by
  rw [hstep i hi,wsucc (by omega)];cases bad i<;>rfl) (fun _=>hend)
 cases hf:ff (fun i=>if bad i=true then some false else none) n with
 |none=>
  right;rw [hf]at h;refine⟨h,fun i hi=>?_⟩;have:=ff_none.1 hf i hi
  cases hb:bad i with
  |false=>rfl
  |true=>simp [hb]at this
 |some v=>
  left;rw [hf]at h;obtain⟨k,-,k2,-⟩:=ff_some.1 hf;split at k2
  ·injection k2 with k2;subst k2;exact h
  ·cases k2
structure SmallSc (s:GScope):Prop where
 nm:s.Name.size≤80
 ins:s.Inputs.length≤14
 defs:s.Defs.length≤14
 rules:s.Rules.length≤60
 i:∀f∈s.Inputs,f.Name.size≤80
 d:∀f∈s.Defs,f.Name.size≤80
 r:∀r∈s.Rules,r.Name.size≤80∧r.Source.size≤80∧r.Guard.length≤50∧r.Value.length≤50
theorem smallScope_s (s:GScope):∃b,same_smallScope s=some b∧(b=true→SmallSc s):=by
 unfold same_smallScope;by_cases h1:80<(s.Name.size:Int)
 ·exact⟨false,by simp [h1],by simp⟩
 by_cases h2:14<(s.Inputs.length:Int)
 ·exact⟨false,by simp [h1,h2],by simp⟩
 by_cases h3:14<(s.Defs.length:Int)
 ·exact⟨false,by simp [h1,h2,h3],by simp⟩
 by_cases h4:60<(s.Rules.length:Int)
 ·exact⟨false,by simp [h1,h2,h3,h4],by simp⟩
 have hc:(if¬80<(s.Name.size:Int)then if¬14<(s.Inputs.length:Int)then if¬14<(s.Defs.length:Int)then some (decide (60<(s.Rules.length:Int)))else some true else some true else some true)=some false:=by
  rw [if_pos h1,if_pos h2,if_pos h3,decide_eq_false h4]
 rw [hc,Option.bind_some,if_neg (by simp)];rcases badLoop (n:=s.Inputs.length) (by omega) (fun i=>match s.Inputs[i]? with|some f=>decide (80<(f.Name.size:Int))|none=>false) (step:=same_smallScope_L5 s) (fun i hi=>by
  unfold same_smallScope_L5;rw [if_pos (by omega),idxN hi,Option.bind_some,List.getElem?_eq_getElem hi];simp only [decide_eq_true_eq]) (by unfold same_smallScope_L5;simp)with k|⟨k,k1⟩
 ·exact⟨false,by rw [k];rfl,by simp⟩
 rw [k,Option.bind_some];dsimp only;rcases badLoop (n:=s.Defs.length) (by omega) (fun i=>match s.Defs[i]? with|some f=>decide (80<(f.Name.size:Int))|none=>false) (step:=same_smallScope_L4 s) (fun i hi=>by
  unfold same_smallScope_L4;rw [if_pos (by omega),idxN hi,Option.bind_some,List.getElem?_eq_getElem hi];simp only [decide_eq_true_eq]) (by unfold same_smallScope_L4;simp)with k|⟨k,k2⟩
 ·exact⟨false,by rw [k];rfl,by simp⟩
 rw [k,Option.bind_some];dsimp only;rcases badLoop (n:=s.Rules.length) (by omega) (fun i=>match s.Rules[i]? with|some r=>decide (80<(r.Name.size:Int)∨80<(r.Source.size:Int)∨50<(r.Guard.length:Int)∨50<(r.Value.length:Int))|none=>false) (step:=same_smallScope_L3 s) (fun i hi=>by
  unfold same_smallScope_L3;rw [if_pos (by omega),idxN hi,Option.bind_some,List.getElem?_eq_getElem hi];generalize s.Rules[i]=r;by_cases r1:80<(r.Name.size:Int)
  ·simp [r1]
  by_cases r2:80<(r.Source.size:Int)
  ·simp [r1,r2]
  by_cases r3:50<(r.Guard.length:Int)
  ·simp [r1,r2,r3]
  ·simp [r1,r2,r3]) (by unfold same_smallScope_L3;simp)with k|⟨k,k3⟩
 ·exact⟨false,by rw [k];rfl,by simp⟩
 rw [k,Option.bind_some];refine⟨true,rfl,fun _=>⟨by omega,by omega,by omega,by omega,?_,?_,?_⟩⟩
 ·intro f hf;obtain⟨i,hi,rfl⟩:=List.getElem_of_mem hf;have:=k1 i hi;rw [List.getElem?_eq_getElem hi]at this;simp at this;omega
 ·intro f hf;obtain⟨i,hi,rfl⟩:=List.getElem_of_mem hf;have:=k2 i hi;rw [List.getElem?_eq_getElem hi]at this;simp at this;omega
 ·intro r hr;obtain⟨i,hi,rfl⟩:=List.getElem_of_mem hr;have:=k3 i hi;rw [List.getElem?_eq_getElem hi]at this;simp only [decide_eq_false_iff_not]at this;omega
def rowsTo (l:GLaw):Nat→Int
 |0=>0
 |k+1=>match l.Tables[k]? with|some t=>wrapF .i64 (rowsTo l k+(t.Rows.length:Int))|none=>rowsTo l k
structure SmallL (l:GLaw):Prop where
 ne:l.Enums.length≤9
 nt:l.Tables.length≤9
 ns:l.Scopes.length≤5
 e:∀x∈l.Enums,x.Name.size≤80∧x.Members.length≤20∧∀m∈x.Members,m.size≤80
 t:∀x∈l.Tables,x.Name.size≤80
 s:∀x∈l.Scopes,SmallSc x
 rt:∀i,i<l.Tables.length→rowsTo l (i+1)≤150
def rulesTo (l:GLaw):Nat→Int
 |0=>0
 |k+1=>match l.Scopes[k]? with|some t=>wrapF .i64 (rulesTo l k+(t.Rules.length:Int))|none=>rulesTo l k
def enBad (l:GLaw) (i:Nat):Bool:=match l.Enums[i]? with|some x=>decide (80<(x.Name.size:Int)) || decide (20<(x.Members.length:Int)) || (x.Members.any fun m=>decide (80<(m.size:Int)))|none=>false
theorem enBad_eq {l:GLaw}{i:Nat}(hi:i<l.Enums.length):enBad l i=(decide (80<(l.Enums[i].Name.size:Int)) || decide (20<(l.Enums[i].Members.length:Int)) || (l.Enums[i].Members.any fun m=>decide (80<(m.size:Int)))):=by
 unfold enBad;rw [List.getElem?_eq_getElem hi]
theorem same_SmallLaw_s (l:GLaw):∃b,same_SmallLaw l=some b∧(b=true→SmallL l):=by
 unfold same_SmallLaw;by_cases h1:9<(l.Enums.length:Int)
 ·exact⟨false,by simp [h1],by simp⟩
 by_cases h2:9<(l.Tables.length:Int)
 ·exact⟨false,by simp [h1,h2],by simp⟩
 by_cases h3:5<(l.Scopes.length:Int)
 ·exact⟨false,by simp [h1,h2,h3],by simp⟩
 have hc:(if¬9<(l.Enums.length:Int)then if¬9<(l.Tables.length:Int)then some (decide (5<(l.Scopes.length:Int)))else some true else some true)=some false:=by
  rw [if_pos h1,if_pos h2,decide_eq_false h3]
 rw [hc,Option.bind_some,if_neg (by simp)];have hin:∀i (hi:i<l.Enums.length),l.Enums[i].Members.length≤20→loopO (same_SmallLaw_L8 l (i:Int)) 0=some (if (l.Enums[i].Members.any fun m=>decide (80<(m.size:Int)))=true then .inr (.ret false)else .inl ()):=by
  intro i hi hm;have h:=loopF (step:=same_SmallLaw_L8 l (i:Int)) (x0:=0) (fun k=>(k:Int)) (fun k=>if (l.Enums[i].Members[k]?.any fun m=>decide (80<(m.size:Int)))=true then some (Ex.ret false)else none) l.Enums[i].Members.length () (fun k hk _=>by
   unfold same_SmallLaw_L8;rw [idxN hi,Option.bind_some,if_pos (by omega),idxN hk,Option.bind_some,List.getElem?_eq_getElem hk,wsucc (by omega)];simp only [Option.any_some,decide_eq_true_eq];by_cases hb:80<(l.Enums[i].Members[k].size:Int)
   ·rw [if_pos hb,if_pos hb];rfl
   ·rw [if_neg hb,if_neg hb];rfl) (fun _=>by unfold same_SmallLaw_L8;rw [idxN hi,Option.bind_some,if_neg (by omega)])
  rw [h,←ff_any (g:=fun _=>(Ex.ret false:Ex Int Unit Bool))]
  cases hf:ff (fun k=>if (l.Enums[i].Members[k]?.any fun m=>decide (80<(m.size:Int)))=true then some (Ex.ret false:Ex Int Unit Bool)else none) l.Enums[i].Members.length with
  |none=>rfl
  |some v=>
   obtain⟨k,-,k2,-⟩:=ff_some.1 hf;split at k2
   ·injection k2 with k2;subst k2;rfl
   ·cases k2
 rcases badLoop (n:=l.Enums.length) (by omega) (enBad l) (step:=same_SmallLaw_L13 l) (fun i hi=>by
  have hin:=hin i hi;unfold same_SmallLaw_L13;rw [if_pos (by omega),idxN hi,Option.bind_some,enBad_eq hi];generalize l.Enums[i]=x at hin⊢;by_cases r1:80<(x.Name.size:Int)
  ·simp [r1]
  by_cases r2:20<(x.Members.length:Int)
  ·simp [r1,r2]
  ·rw [if_pos r1,Option.bind_some,if_neg (by simpa using r2),hin (by omega),Option.bind_some];generalize (x.Members.any fun m=>decide (80<(m.size:Int)))=c;cases c
   ·rw [if_neg (show¬(decide (80<(x.Name.size:Int)) || decide (20<(x.Members.length:Int)) || false)=true by simp only [Bool.or_false,Bool.or_eq_true,decide_eq_true_eq];omega)];rfl
   ·rw [if_pos (show (decide (80<(x.Name.size:Int)) || decide (20<(x.Members.length:Int)) || true)=true by simp)];rfl) (by unfold same_SmallLaw_L13;simp)with k|⟨k,k1⟩
 ·exact⟨false,by rw [k];rfl,by simp⟩
 rw [k,Option.bind_some];dsimp only;have hT:=loopF (step:=same_SmallLaw_L12 l) (x0:=(0,0)) (fun i=>(rowsTo l i,(i:Int))) (fun i=>match l.Tables[i]? with|some x=>if (decide (80<(x.Name.size:Int)) || decide (150<rowsTo l (i+1)))=true then some false else none|none=>none) l.Tables.length () (fun i hi _=>by
  unfold same_SmallLaw_L12;simp only [rowsTo,List.getElem?_eq_getElem hi];rw [if_pos (by omega),idxN hi,Option.bind_some,wsucc (by omega)];generalize l.Tables[i]=x;generalize wrapF .i64 (rowsTo l i+(x.Rows.length:Int))=w;by_cases r1:80<(x.Name.size:Int)
  ·simp [r1,goR]
  ·by_cases r2:150<w<;>simp [r1,r2,goR]) (fun _=>by unfold same_SmallLaw_L12;simp)
 rw [hT,Option.bind_some]
 cases hf:ff (fun i=>match l.Tables[i]? with|some x=>if (decide (80<(x.Name.size:Int)) || decide (150<rowsTo l (i+1)))=true then some false else none|none=>none) l.Tables.length with
 |some v=>
  refine⟨false,?_,by simp⟩;obtain⟨j,j1,j2,-⟩:=ff_some.1 hf;rw [List.getElem?_eq_getElem j1]at j2;dsimp only at j2;split at j2
  ·injection j2 with j2;subst j2;rfl
  ·cases j2
 |none=>
  have ht2:=ff_none.1 hf;dsimp only [outR];have hS:=loopF (step:=same_SmallLaw_L11 l) (x0:=(0,0)) (fun i=>(rulesTo l i,(i:Int))) (fun i=>match l.Scopes[i]? with|some x=>if (decide (60<rulesTo l (i+1)) || !((same_smallScope x).getD true))=true then some false else none|none=>none) l.Scopes.length () (fun i hi _=>by
   unfold same_SmallLaw_L11;simp only [rulesTo,List.getElem?_eq_getElem hi];rw [if_pos (by omega),idxN hi,Option.bind_some,wsucc (by omega)];obtain⟨b,hb,-⟩:=smallScope_s l.Scopes[i];rw [hb];generalize wrapF .i64 (rulesTo l i+(l.Scopes[i].Rules.length:Int))=w;by_cases r1:60<w
   ·simp [r1,goR]
   ·cases b<;>simp [r1,goR]) (fun _=>by unfold same_SmallLaw_L11;simp)
  rw [hS,Option.bind_some]
  cases hf2:ff (fun i=>match l.Scopes[i]? with|some x=>if (decide (60<rulesTo l (i+1)) || !((same_smallScope x).getD true))=true then some false else none|none=>none) l.Scopes.length with
  |some v=>
   refine⟨false,?_,by simp⟩;obtain⟨j,j1,j2,-⟩:=ff_some.1 hf2;rw [List.getElem?_eq_getElem j1]at j2;dsimp only at j2;split at j2
   ·injection j2 with j2;subst j2;rfl
   ·cases j2
  |none=>
   have hs2:=ff_none.1 hf2;refine⟨true,rfl,fun _=>⟨by omega,by omega,by omega,?_,?_,?_,fun i hi=>?_⟩⟩
   ·intro x hx;obtain⟨i,hi,rfl⟩:=List.getElem_of_mem hx;have:=k1 i hi;rw [enBad_eq hi]at this;simp only [Bool.or_eq_false_iff,decide_eq_false_iff_not]at this;refine⟨by omega,by omega,fun m hm=>?_⟩;have h5:=List.any_eq_false.1 this.2 m hm;simp at h5;omega
   ·intro x hx;obtain⟨i,hi,rfl⟩:=List.getElem_of_mem hx;have:=ht2 i hi;rw [List.getElem?_eq_getElem hi]at this;dsimp only at this;split at this
    ·cases this
    ·rename_i hn;simp only [Bool.or_eq_true,decide_eq_true_eq,not_or]at hn;omega
   ·intro x hx;obtain⟨i,hi,rfl⟩:=List.getElem_of_mem hx;have:=hs2 i hi;rw [List.getElem?_eq_getElem hi]at this;dsimp only at this;split at this
    ·cases this
    ·rename_i hn;obtain⟨b,hb,hb2⟩:=smallScope_s l.Scopes[i];rw [hb]at hn;simp at hn;exact hb2 hn.2
   ·have:=ht2 i hi;rw [List.getElem?_eq_getElem hi]at this;dsimp only at this;split at this
    ·cases this
    ·rename_i hn;simp only [Bool.or_eq_true,decide_eq_true_eq,not_or]at hn;omega
theorem rowsTo_eq {l:GLaw}(hr:∀t∈l.Tables,t.Rows.length≤1125899906842624) (hn:l.Tables.length≤9):∀n,n≤l.Tables.length→0≤rowsTo l n∧rowsTo l n≤1125899906842624*n∧∀i (hi:i<l.Tables.length),i<n→(l.Tables[i].Rows.length:Int)≤rowsTo l n
 |0,_=>by simp [rowsTo]
 |n+1,h=>by
  obtain⟨h1,h2,h3⟩:=rowsTo_eq hr hn n (by omega);have hb:=hr l.Tables[n] (by simp);simp only [rowsTo,List.getElem?_eq_getElem (show n<l.Tables.length by omega)];rw [wid (by omega) (by omega)];refine⟨by omega,by omega,fun i hi hin=>?_⟩;rcases Nat.lt_succ_iff_lt_or_eq.1 hin with h4|rfl
  ·have:=h3 i hi h4;omega
  ·omega
theorem SmallL.rows {l:GLaw}(h:SmallL l) (hr:∀t∈l.Tables,t.Rows.length≤1125899906842624):∀t∈l.Tables,t.Rows.length≤150:=by
 intro t ht;obtain⟨i,hi,rfl⟩:=List.getElem_of_mem ht;obtain⟨-,-,h3⟩:=rowsTo_eq hr h.nt (i+1) hi;have:=h3 i hi (by omega);have:=h.rt i hi;omega
def LawTy (l:GLaw):Prop:=∀s∈l.Scopes,∀r∈s.Rules,(∀n∈r.Guard,NodeOk n)∧∀n∈r.Value,NodeOk n
end Go.Proofs.Dev
namespace Go.Proofs.Dev
open Go Go.Tm
def neB (r:GDateRange):Bool:=decide (0≤r.From)&&(decide (r.To≤109573)&&decide (r.From<r.To))
theorem valid3 {a b c:Prop} [Decidable a] [Decidable b] [Decidable c] {k:Bool→Option Bool}:((Option.bind (if a then if b then some (decide c)else some false else some false) fun j=>some j).bind k)=k (decide a&&(decide b&&decide c)):=by
 by_cases h1:a<;>by_cases h2:b<;>simp [h1,h2]
theorem facts_nonempty_s (r:GDateRange):facts_nonempty r=some (neB r):=by
 unfold facts_nonempty daterange_Valid neB;rw [valid3];by_cases h1:0≤r.From<;>by_cases h2:r.From≤r.To<;>by_cases h3:r.To≤109573<;>simp [h1,h2,h3]<;>omega
theorem daterange_hasDate_s (r:GDateRange):daterange_hasDate r=some (neB r):=by
 unfold daterange_hasDate daterange_Valid neB;rw [valid3];by_cases h1:0≤r.From<;>by_cases h2:r.From≤r.To<;>by_cases h3:r.To≤109573<;>simp [h1,h2,h3]<;>omega
theorem ref34_nonempty_s (r:GDateRange):ref34_nonempty r=some (neB r):=by
 unfold ref34_nonempty ref05_Valid neB;rw [valid3];by_cases h1:0≤r.From<;>by_cases h2:r.From≤r.To<;>by_cases h3:r.To≤109573<;>simp [h1,h2,h3]<;>omega
theorem ref05_nonempty_s (r:GDateRange):ref05_nonempty r=some (neB r):=by
 unfold ref05_nonempty ref05_Valid neB;rw [valid3];by_cases h1:0≤r.From<;>by_cases h2:r.From≤r.To<;>by_cases h3:r.To≤109573<;>simp [h1,h2,h3]<;>omega
def ends:List GDateRange→List Int
 |[]=>[]
 |r::l=>(if neB r=true then [r.From,r.To]else [])++ends l
theorem ends_app {a b:List GDateRange}:ends (a++b)=ends a++ends b:=by
 induction a with
 |nil=>rfl
 |cons x l ih=>simp [ends,ih]
theorem ends_len:∀l:List GDateRange,(ends l).length≤2*l.length
 |[]=>by simp [ends]
 |r::l=>by
  have:=ends_len l;simp only [ends,List.length_append,List.length_cons];split<;>simp<;>omega
theorem take_snoc {α:Type}{l:List α}{i:Nat}(h:i<l.length):l.take (i+1)=l.take i++[l[i]]:=by
 rw [List.take_add_one,List.getElem?_eq_getElem h];rfl
theorem loopL {α β:Type}{n:Nat}{l:List α}(hn:n=l.length) {step:List β×Int→Option (Ex (List β×Int) (List β) Unit)}(g:List α→List β) (x0:List β)
 (hgo:∀i (h:i<l.length),step (x0++g (l.take i),(i:Int))=some (.go (x0++g (l.take (i+1)),((i+1:Nat):Int)))) (hend:∀x,step (x,(n:Int))=some (.brk x)) (h0:g []=[]):loopO step (x0,0)=some (.inl (x0++g l)):=by
 subst hn;refine loopG (fun i=>(x0++g (l.take i),(i:Int))) l.length _ (fun i hi=>hgo i hi) ?_ (by simp [h0]);rw [hend,List.take_length]
theorem bnd_loop {l:List GDateRange}(hl:l.length≤1048576) {step:List Int×Int→Option (Ex (List Int×Int) (List Int) Unit)}(hs:step=daterange_Boundaries_L1 l∨step=effective_ChangeDates_L27 l):loopO step ([],0)=some (.inl (ends l)):=by
 have h:=loopL (step:=step) (l:=l) rfl ends [] (fun i hi=>by
  have h1:=ends_len (l.take i);have h2:(l.take i).length≤l.length:=by rw [List.length_take];omega
  rw [take_snoc hi,ends_app];rcases hs with rfl|rfl
  ·unfold daterange_Boundaries_L1;dsimp only;rw [if_pos (by omega),idxN hi,Option.bind_some,daterange_hasDate_s,Option.bind_some,wsucc (by omega)];cases hb:neB l[i]
   ·simp [ends,hb]
   ·simp [ends,hb,appS (show ((ends (l.take i)).length + [l[i].From,l[i].To].length)*8≤140737488355328 by simp;omega)]
  ·unfold effective_ChangeDates_L27;dsimp only;rw [if_pos (by omega),idxN hi,Option.bind_some,daterange_hasDate_s,Option.bind_some,wsucc (by omega)];cases hb:neB l[i]
   ·simp [ends,hb]
   ·simp [ends,hb,appS (show ((ends (l.take i)).length + [l[i].From,l[i].To].length)*8≤140737488355328 by simp;omega)]) (fun x=>by
  rcases hs with rfl|rfl
  ·unfold daterange_Boundaries_L1;simp
  ·unfold effective_ChangeDates_L27;simp) rfl
 simpa using h
theorem sortc {l:List Int}(h:l.length≤4194304):((slices_Sort_int_int l).bind fun x=>(slices_Compact_int_int x).bind fun y=>some y)=some (dsort l):=by
 unfold slices_Sort_int_int slices_Compact_int_int;rw [if_pos (by omega),Option.bind_some,if_pos (by simp;omega),Option.bind_some,compact_msort]
theorem daterange_Boundaries_s {l:List GDateRange}(hl:l.length≤1048576):daterange_Boundaries l=some (dsort (ends l)):=by
 have:=ends_len l;unfold daterange_Boundaries;rw [bnd_loop hl (.inl rfl),Option.bind_some];exact sortc (by omega)
theorem eff_I4_s {l:List GDateRange}(hl:l.length≤1048576):effective_ChangeDates_I4 l=some (dsort (ends l)):=by
 have:=ends_len l;unfold effective_ChangeDates_I4;rw [bnd_loop hl (.inr rfl),Option.bind_some];exact sortc (by omega)
def dayB (x:Int):Bool:=decide (1≤x)&&decide (x≤109572)
def known (t1:Int) (f:GFact):Bool:=decide (f.Recorded≤t1)&&neB f.Valid
def knR (t1:Int) (l:List GFact):List GDateRange:=(l.filter (known t1)).map (·.Valid)
theorem knR_len (t1:Int) (l:List GFact):(knR t1 l).length≤l.length:=by
 unfold knR;rw [List.length_map];exact List.length_filter_le _ _
theorem knR_app {t1:Int}{a b:List GFact}:knR t1 (a++b)=knR t1 a++knR t1 b:=by simp [knR]
theorem dsort_len (l:List Int):(dsort l).length≤l.length:=(dsort_inv l).2.1
theorem facts_ChangeDates_s {l:List GFact}(t1:Int) (hl:l.length≤65536):facts_ChangeDates l t1=some ((dsort (ends (knR t1 l))).filter dayB):=by
 unfold facts_ChangeDates;have e1:=loopL (step:=facts_ChangeDates_L3 l t1) (l:=l) rfl (knR t1) [] (fun i hi=>by
  have h1:=knR_len t1 (l.take i);have h2:(l.take i).length≤l.length:=by rw [List.length_take];omega
  have hk1:knR t1 [l[i]]=if known t1 l[i]=true then [l[i].Valid]else []:=by
   unfold knR;cases hb:known t1 l[i]<;>simp [hb]
  rw [take_snoc hi,knR_app,hk1];have ha:=appS (b:=16) (show ((knR t1 (l.take i)).length + [l[i].Valid].length)*16≤140737488355328 by simp;omega);generalize knR t1 (l.take i)=w at *;unfold facts_ChangeDates_L3;dsimp only;rw [if_pos (by omega),idxN hi,Option.bind_some,facts_nonempty_s,wsucc (by omega)];unfold known;by_cases hr:l[i].Recorded≤t1
  ·cases hb:neB l[i].Valid
   ·simp [hr]
   ·simp [hr,ha]
  ·simp [hr]) (fun x=>by unfold facts_ChangeDates_L3;simp) rfl
 rw [List.nil_append]at e1;have hk:=knR_len t1 l;have he:=ends_len (knR t1 l);have hd:=dsort_len (ends (knR t1 l));rw [e1,Option.bind_some];dsimp only;rw [daterange_Boundaries_s (by omega),Option.bind_some];generalize dsort (ends (knR t1 l))=q at *;have e2:=loopL (step:=facts_ChangeDates_L2 q) (l:=q) rfl (fun l=>l.filter dayB) [] (fun i hi=>by
  have h1:=List.length_filter_le dayB (q.take i);have h2:(q.take i).length≤q.length:=by rw [List.length_take];omega
  rw [take_snoc hi,List.filter_append];unfold facts_ChangeDates_L2;dsimp only;rw [if_pos (by omega),idxN hi,Option.bind_some,wsucc (by omega)];have ha:=appS (b:=8) (show (((q.take i).filter dayB).length + [q[i]].length)*8≤140737488355328 by simp;omega);by_cases h3:1≤q[i]<;>by_cases h4:q[i]≤109572<;>simp [dayB,h3,h4]<;>(first|exact ha|(rw [show app 8 (List.filter dayB (List.take i q)) [q[i]]=_ from ha];rfl)|skip)) (fun x=>by unfold facts_ChangeDates_L2;simp) rfl
 rw [List.nil_append]at e2;rw [e2];rfl
end Go.Proofs.Dev
namespace Go.Proofs.Dev
open Go Go.Tm
theorem loopJ {σ β ρ:Type}{step:σ→Option (Ex σ β ρ)}(I:Nat→σ→Prop) (n:Nat) (Q:β→Prop) (hgo:∀j s,j<n→I j s→∃s',step s=some (.go s')∧I (j+1) s') (hend:∀s,I n s→∃b,step s=some (.brk b)∧Q b) :
 ∀(k j:Nat) (s:σ),j+k=n→I j s→∃b,loopO step s=some (.inl b)∧Q b
 |0,j,s,h,hi=>by
  rw [Nat.add_zero]at h;subst h;obtain⟨b,h1,h2⟩:=hend s hi;exact⟨b,loopO_brk h1,h2⟩
 |k+1,j,s,h,hi=>by
  obtain⟨s',h1,h2⟩:=hgo j s (by omega) hi;obtain⟨b,h3,h4⟩:=loopJ I n Q hgo hend k (j+1) s' (by omega) h2;exact⟨b,by rw [loopO_go h1];exact h3,h4⟩
def tabR (l:List GTable):List GDateRange:=l.flatMap fun t=>t.Rows.map (·.Valid)
def scoR (l:List GScope):List GDateRange:=l.flatMap fun s=>s.Rules.map (·.Valid)
theorem tabR_len:∀{l:List GTable},(∀t∈l,t.Rows.length≤150)→(tabR l).length≤150*l.length
 |[],_=>by simp [tabR]
 |t::l,h=>by
  have h1:=tabR_len (l:=l) fun x hx=>h x (by simp [hx]);have h2:=h t (by simp);simp only [tabR,List.flatMap_cons,List.length_append,List.length_map,List.length_cons]at h1⊢;omega
theorem scoR_len:∀{l:List GScope},(∀t∈l,t.Rules.length≤60)→(scoR l).length≤60*l.length
 |[],_=>by simp [scoR]
 |t::l,h=>by
  have h1:=scoR_len (l:=l) fun x hx=>h x (by simp [hx]);have h2:=h t (by simp);simp only [scoR,List.flatMap_cons,List.length_append,List.length_map,List.length_cons]at h1⊢;omega
theorem tabR_app {a b:List GTable}:tabR (a++b)=tabR a++tabR b:=by simp [tabR]
theorem scoR_app {a b:List GScope}:scoR (a++b)=scoR a++scoR b:=by simp [scoR]
theorem tabR_one {t:GTable}:tabR [t]=t.Rows.map (·.Valid):=by simp [tabR]
theorem scoR_one {t:GScope}:scoR [t]=t.Rules.map (·.Valid):=by simp [scoR]
theorem loopV {α:Type}{l:List α}(v:α→GDateRange) {x0:List GDateRange}(hx:x0.length+l.length≤1048576) {step:List GDateRange×Int→Option (Ex (List GDateRange×Int) (List GDateRange) Unit)}
 (hgo:∀i (h:i<l.length) x,step (x,(i:Int))=(app 16 x [v l[i]]).bind fun y=>some (.go (y,wrapF .i64 ((i:Int)+1)))) (hend:∀x,step (x,(l.length:Int))=some (.brk x)):loopO step (x0,0)=some (.inl (x0++l.map v)):=by
 refine loopL (step:=step) (l:=l) rfl (fun l=>l.map v) x0 (fun i hi=>?_) hend rfl;have h2:(l.take i).length≤l.length:=by rw [List.length_take];omega
 rw [hgo i hi,appS (by simp;omega),Option.bind_some,wsucc (by omega),take_snoc hi];simp only [List.map_append,List.map_cons,List.map_nil,List.append_assoc]
structure FewR (l:GLaw):Prop where
 nt:l.Tables.length≤9
 ns:l.Scopes.length≤5
 t:∀t∈l.Tables,t.Rows.length≤150
 s:∀s∈l.Scopes,s.Rules.length≤60
theorem take_mem {α:Type}{l:List α}{i:Nat}{x:α}(h:x∈l.take i):x∈l:=List.mem_of_mem_take h
theorem eff_L35_s {l:GLaw}(h:FewR l):loopO (effective_ChangeDates_L35 l) ([],0)=some (.inl (tabR l.Tables)):=by
 have hnt:=h.nt;have:=loopL (step:=effective_ChangeDates_L35 l) (l:=l.Tables) rfl tabR [] (fun i hi=>by
  have h1:=tabR_len (l:=l.Tables.take i) fun x hx=>h.t x (take_mem hx);have h2:(l.Tables.take i).length≤l.Tables.length:=by rw [List.length_take];omega
  have h3:=h.t l.Tables[i] (by simp);unfold effective_ChangeDates_L35;dsimp only;rw [if_pos (by omega),idxN hi,Option.bind_some,List.nil_append,loopV (l:=l.Tables[i].Rows) (·.Valid) (by omega) (fun k hk x=>by unfold effective_ChangeDates_L8;dsimp only;rw [if_pos (by omega),idxN hk,Option.bind_some]) (fun x=>by unfold effective_ChangeDates_L8;simp),Option.bind_some,wsucc (by omega),take_snoc hi,tabR_app,tabR_one];rfl) (fun x=>by unfold effective_ChangeDates_L35;simp) rfl
 simpa using this
theorem eff_L34_s {l:GLaw}(h:FewR l) {x0:List GDateRange}(hx:x0.length≤10000):loopO (effective_ChangeDates_L34 l) (x0,0)=some (.inl (x0++scoR l.Scopes)):=by
 have hns:=h.ns;refine loopL (step:=effective_ChangeDates_L34 l) (l:=l.Scopes) rfl scoR x0 (fun i hi=>?_) (fun x=>by unfold effective_ChangeDates_L34;simp) rfl;have h1:=scoR_len (l:=l.Scopes.take i) fun x hx=>h.s x (take_mem hx);have h2:(l.Scopes.take i).length≤l.Scopes.length:=by rw [List.length_take];omega
 have h3:=h.s l.Scopes[i] (by simp);unfold effective_ChangeDates_L34;dsimp only;rw [if_pos (by omega),idxN hi,Option.bind_some,loopV (l:=l.Scopes[i].Rules) (·.Valid) (by simp;omega) (fun k hk x=>by unfold effective_ChangeDates_L17;dsimp only;rw [if_pos (by omega),idxN hk,Option.bind_some]) (fun x=>by unfold effective_ChangeDates_L17;simp),Option.bind_some,wsucc (by omega),take_snoc hi,scoR_app,scoR_one,List.append_assoc]
theorem ref15_L19_s {l:GLaw}(h:FewR l):loopO (ref15_ChangeDates_L19 l) ([],0)=some (.inl (tabR l.Tables)):=by
 have hnt:=h.nt;have:=loopL (step:=ref15_ChangeDates_L19 l) (l:=l.Tables) rfl tabR [] (fun i hi=>by
  have h1:=tabR_len (l:=l.Tables.take i) fun x hx=>h.t x (take_mem hx);have h2:(l.Tables.take i).length≤l.Tables.length:=by rw [List.length_take];omega
  have h3:=h.t l.Tables[i] (by simp);unfold ref15_ChangeDates_L19;dsimp only;rw [if_pos (by omega),List.nil_append,loopV (l:=l.Tables[i].Rows) (·.Valid) (by omega) (fun k hk x=>by unfold ref15_ChangeDates_L8;dsimp only;rw [idxN hi,Option.bind_some,if_pos (by omega),idxN hk,Option.bind_some]) (fun x=>by unfold ref15_ChangeDates_L8;dsimp only;rw [idxN hi];simp),Option.bind_some,wsucc (by omega),take_snoc hi,tabR_app,tabR_one];rfl) (fun x=>by unfold ref15_ChangeDates_L19;simp) rfl
 simpa using this
theorem ref15_L18_s {l:GLaw}(h:FewR l) {x0:List GDateRange}(hx:x0.length≤10000):loopO (ref15_ChangeDates_L18 l) (x0,0)=some (.inl (x0++scoR l.Scopes)):=by
 have hns:=h.ns;refine loopL (step:=ref15_ChangeDates_L18 l) (l:=l.Scopes) rfl scoR x0 (fun i hi=>?_) (fun x=>by unfold ref15_ChangeDates_L18;simp) rfl;have h1:=scoR_len (l:=l.Scopes.take i) fun x hx=>h.s x (take_mem hx);have h2:(l.Scopes.take i).length≤l.Scopes.length:=by rw [List.length_take];omega
 have h3:=h.s l.Scopes[i] (by simp);unfold ref15_ChangeDates_L18;dsimp only;rw [if_pos (by omega),loopV (l:=l.Scopes[i].Rules) (·.Valid) (by simp;omega) (fun k hk x=>by unfold ref15_ChangeDates_L17;dsimp only;rw [idxN hi,Option.bind_some,if_pos (by omega),idxN hk,Option.bind_some]) (fun x=>by unfold ref15_ChangeDates_L17;dsimp only;rw [idxN hi];simp),Option.bind_some,wsucc (by omega),take_snoc hi,scoR_app,scoR_one,List.append_assoc]
theorem eff_c1_s (x:Int):effective_ChangeDates_c1 x=some (!dayB x):=by
 unfold effective_ChangeDates_c1 dayB;by_cases h1:x<1<;>by_cases h2:109572<x<;>simp [h1,h2]<;>omega
theorem filter_all {l:List Int}(h:∀i (hi:i<l.length),dayB l[i]=true):l.filter dayB=l:=by
 rw [List.filter_eq_self];intro x hx;obtain⟨i,hi,rfl⟩:=List.getElem_of_mem hx;exact h i hi
theorem eff_I7_s {q:List Int}(hq:q.length≤1048576):∃c,effective_ChangeDates_I7 q=some (c,q.filter dayB):=by
 unfold effective_ChangeDates_I7 effective_ChangeDates_I6;have h6:=loopF (step:=effective_ChangeDates_L31 q) (x0:=0) (fun i=>(i:Int)) (fun i=>match q[i]? with|some x=>if dayB x=true then none else some (i:Int)|none=>none) q.length () (fun i hi _=>by
  unfold effective_ChangeDates_L31;rw [if_pos (by omega),idxN hi,Option.bind_some,eff_c1_s,Option.bind_some,wsucc (by omega)];simp only [List.getElem?_eq_getElem hi];cases hb:dayB q[i]<;>simp [goR]) (fun _=>by unfold effective_ChangeDates_L31;simp)
 rw [h6]
 cases hf:ff (fun i=>match q[i]? with|some x=>if dayB x=true then none else some (i:Int)|none=>none) q.length with
 |none=>
  have h:=ff_none.1 hf;refine⟨q,?_⟩;simp only [outR,Option.bind_some,if_pos];rw [filter_all fun i hi=>?_];have:=h i hi;rw [List.getElem?_eq_getElem hi]at this;cases hb:dayB q[i]
  ·simp [hb]at this
  ·rfl
 |some v=>
  obtain⟨k,k1,k2,k3⟩:=ff_some.1 hf;rw [List.getElem?_eq_getElem k1]at k2;have hb:dayB q[k]=false:=by cases hb:dayB q[k]<;>simp [hb]at k2⊢
  simp [hb]at k2;subst k2;have hk:(q.take k).filter dayB=q.take k:=filter_all fun i hi=>by
   rw [List.length_take]at hi;have:=k3 i (by omega);rw [List.getElem?_eq_getElem (by omega)]at this;rw [List.getElem_take];cases hb:dayB q[i]
   ·simp [hb]at this
   ·rfl
  simp only [outR,Option.bind_some];rw [if_neg (by omega),wsucc (by omega)];obtain⟨⟨c,n⟩,hl,hc⟩:=loopJ (step:=effective_ChangeDates_L33) (fun j s=>s.2.2=(j:Int)∧s.1.length=q.length∧s.2.1=(((q.take j).filter dayB).length:Int)∧s.1.take ((q.take j).filter dayB).length=(q.take j).filter dayB∧s.1.drop j=q.drop j) q.length
   (fun b=>b.1.length=q.length∧b.2=((q.filter dayB).length:Int)∧b.1.take (q.filter dayB).length=q.filter dayB) (fun j s hj ⟨i1,i2,i3,i4,i5⟩=>by
    obtain⟨c,n,jj⟩:=s;dsimp only at i1 i2 i3 i4 i5;subst i1 i3;have hle:=List.length_filter_le dayB (q.take j);have hlt:(q.take j).length=j:=by rw [List.length_take];omega
    have hcj:c[j]'(by omega)=q[j]:=by
     have h1:(c.drop j)[0]?=(q.drop j)[0]?:=by rw [i5]
     simpa [List.getElem?_eq_getElem hj,List.getElem?_eq_getElem (show j<c.length by omega)] using h1
    have hd:c.drop (j+1)=q.drop (j+1):=by
     have:=congrArg (List.drop 1) i5;simpa using this
    unfold effective_ChangeDates_L33;dsimp only;rw [if_pos (by omega),idxN (show j<c.length by omega),Option.bind_some,eff_c1_s,Option.bind_some,hcj,wsucc (show j<4611686018427387904 by omega),take_snoc hj,List.filter_append];cases hb:dayB q[j]
    ·refine⟨_,by rw [if_neg (by simp)];rfl,rfl,i2,by simp [hb],by simpa [hb] using i4,hd⟩
    ·rw [if_pos (by simp),idxN (show ((q.take j).filter dayB).length<c.length by omega),Option.bind_some,putN (by omega),Option.bind_some,wsucc (by omega)];refine⟨_,rfl,rfl,by simpa using i2,by simp [hb],?_,?_⟩
     ·simp only [hb,List.filter_cons,List.filter_nil,if_true,List.length_append,List.length_cons,List.length_nil,Nat.zero_add];rw [List.take_add_one,List.take_set_of_le (Nat.le_refl _),i4,List.getElem?_set_self (by omega)];rfl
     ·rw [List.drop_set_of_lt (by omega)];exact hd) (fun s ⟨i1,i2,i3,i4,i5⟩=>by
    obtain⟨c,n,jj⟩:=s;dsimp only at i1 i2 i3 i4 i5;rw [List.take_length]at i3 i4;unfold effective_ChangeDates_L33;dsimp only;exact⟨_,by rw [if_neg (by omega)],i2,i3,i4⟩) (q.length-(k+1)) (k+1) (q,(k:Int),((k+1:Nat):Int)) (by omega) (by
    have e:(q.take (k+1)).filter dayB=q.take k:=by
     rw [take_snoc k1,List.filter_append,hk];simp [hb]
    refine⟨rfl,rfl,?_,?_,rfl⟩
    ·dsimp only;rw [e,List.length_take,Nat.min_eq_left (by omega)]
    ·dsimp only;rw [e,List.length_take,Nat.min_eq_left (by omega)])
  dsimp only at hc;obtain⟨h1,rfl,h3⟩:=hc;have hle:=List.length_filter_le dayB q;rw [hl,Option.bind_some];dsimp only;rw [sublN (by omega),Option.bind_some];have hcl:clrO c ((q.filter dayB).length:Int) (c.drop (q.filter dayB).length) 0=some (c.take (q.filter dayB).length++List.replicate (c.drop (q.filter dayB).length).length 0++c.drop ((q.filter dayB).length+(c.drop (q.filter dayB).length).length)):=by
   unfold clrO;rw [if_pos ⟨by omega,by simp;omega⟩];simp
  rw [hcl,Option.bind_some,h3,subhN (by simp),Option.bind_some];exact⟨_,by rw [List.append_assoc,List.take_append_of_le_length (Nat.le_refl _),List.take_length]⟩
theorem effective_ChangeDates_s {l:GLaw}(h:FewR l):effective_ChangeDates l=some ((dsort (ends (tabR l.Tables++scoR l.Scopes))).filter dayB):=by
 have hnt:=h.nt;have hns:=h.ns;have h1:=tabR_len h.t;have h2:=scoR_len h.s;have h3:=ends_len (tabR l.Tables++scoR l.Scopes);have h4:=dsort_len (ends (tabR l.Tables++scoR l.Scopes));rw [List.length_append]at h3;unfold effective_ChangeDates;rw [eff_L35_s h,Option.bind_some];dsimp only;rw [eff_L34_s h (by omega),Option.bind_some];dsimp only;rw [eff_I4_s (by simp;omega),Option.bind_some];obtain⟨c,hc⟩:=eff_I7_s (q:=dsort (ends (tabR l.Tables++scoR l.Scopes))) (by omega);rw [hc];rfl
end Go.Proofs.Dev
namespace Go.Proofs.Dev
open Go Go.Tm
theorem ref05_Insert_s {l:List Int}{x:Int}(hl:l.length≤1048576):∃r,ref05_Insert l x=some r∧r.length≤l.length+1∧∀y,y∈r↔y∈l∨y=x:=by
 unfold ref05_Insert;have hf:∀(p:Int→Bool) i,((l.take i).filter p).length≤l.length:=fun p i=>by
  have h1:=List.length_filter_le p (l.take i);have h2:(l.take i).length≤l.length:=by rw [List.length_take];omega
  omega
 have e1:=loopL (step:=ref05_Insert_L3 l x) (l:=l) rfl (fun l=>l.filter fun y=>decide (y<x)) [] (fun i hi=>by
  have h1:=hf (fun y=>decide (y<x)) i;rw [take_snoc hi,List.filter_append];have ha:=appS (b:=8) (show (((l.take i).filter fun y=>decide (y<x)).length + [l[i]].length)*8≤140737488355328 by simp;omega);generalize ((l.take i).filter fun y=>decide (y<x))=w at *;unfold ref05_Insert_L3;dsimp only;rw [if_pos (by omega),idxN hi,Option.bind_some,wsucc (by omega),List.nil_append];by_cases hr:l[i]<x<;>simp [hr,ha]) (fun y=>by unfold ref05_Insert_L3;simp) rfl
 rw [List.nil_append]at e1;rw [e1,Option.bind_some];dsimp only;have h0:=List.length_filter_le (fun y=>decide (y<x)) l;rw [appS (by simp;omega),Option.bind_some];have e2:=loopL (step:=ref05_Insert_L2 l x) (l:=l) rfl (fun l=>l.filter fun y=>decide (x<y)) ((l.filter fun y=>decide (y<x))++[x]) (fun i hi=>by
  have h1:=hf (fun y=>decide (x<y)) i;rw [take_snoc hi,List.filter_append];have ha:=appS (b:=8) (show ((((l.filter fun y=>decide (y<x))++[x])++((l.take i).filter fun y=>decide (x<y))).length + [l[i]].length)*8≤140737488355328 by simp;omega);generalize ((l.take i).filter fun y=>decide (x<y))=w at *;generalize ((l.filter fun y=>decide (y<x))++[x])=w0 at *;unfold ref05_Insert_L2;dsimp only;rw [if_pos (by omega),idxN hi,Option.bind_some,wsucc (by omega)];by_cases hr:x<l[i]<;>simp [hr,ha]) (fun y=>by unfold ref05_Insert_L2;simp) rfl
 rw [e2];refine⟨_,rfl,?_,fun y=>?_⟩
 ·have k:∀l:List Int,(l.filter fun y=>decide (y<x)).length+(l.filter fun y=>decide (x<y)).length≤l.length:=by
   intro l
   induction l with
   |nil=>simp
   |cons y l ih=>
    simp only [List.filter_cons,List.length_cons];by_cases a:y<x<;>by_cases b:x<y<;>simp [a,b]<;>omega
  have:=k l;simp only [List.length_append,List.length_cons,List.length_nil];omega
 ·simp only [List.mem_append,List.mem_filter,List.mem_cons,List.not_mem_nil,or_false,decide_eq_true_eq];constructor
  ·rintro ((⟨h,-⟩|h)|⟨h,-⟩)
   ·exact .inl h
   ·exact .inr h
   ·exact .inl h
  ·rintro (h|h)
   ·rcases Int.lt_trichotomy y x with a|a|a
    ·exact .inl (.inl ⟨h,a⟩)
    ·exact .inl (.inr a)
    ·exact .inr ⟨h,a⟩
   ·exact .inl (.inr h)
theorem ref05_Boundaries_s {l:List GDateRange}(hl:l.length≤65536):∃r,ref05_Boundaries l=some r∧r.length≤2*l.length∧∀y,y∈r↔y∈ends l:=by
 unfold ref05_Boundaries;obtain⟨b,h1,h2,h3⟩:=loopJ (step:=ref05_Boundaries_L1 l) (fun j s=>s.2=(j:Int)∧s.1.length≤2*j∧∀y,y∈s.1↔y∈ends (l.take j)) l.length (fun b=>b.length≤2*l.length∧∀y,y∈b↔y∈ends l) (fun j s hj ⟨i1,i2,i3⟩=>by
  obtain⟨s,jj⟩:=s;dsimp only at i1 i2 i3;subst i1;unfold ref05_Boundaries_L1;dsimp only;rw [if_pos (by omega),idxN hj,Option.bind_some,ref05_nonempty_s,Option.bind_some,wsucc (by omega)];have hm:∀y,y∈ends (l.take (j+1))↔y∈ends (l.take j)∨(neB l[j]=true∧(y=l[j].From∨y=l[j].To)):=fun y=>by
   rw [take_snoc hj,ends_app,List.mem_append];cases hb:neB l[j]<;>simp [ends,hb]
  cases hb:neB l[j]
  ·exact⟨_,by rw [if_neg (by simp)];rfl,rfl,by dsimp only;omega,fun y=>by dsimp only;rw [hm,hb,i3];simp⟩
  ·obtain⟨r1,a1,a2,a3⟩:=ref05_Insert_s (l:=s) (x:=l[j].From) (by omega);obtain⟨r2,b1,b2,b3⟩:=ref05_Insert_s (l:=r1) (x:=l[j].To) (by omega);refine⟨_,by rw [if_pos rfl,a1,Option.bind_some,b1,Option.bind_some,Option.bind_some],rfl,by dsimp only;omega,fun y=>?_⟩;dsimp only;rw [hm,hb,b3,a3,i3,or_assoc];simp) (fun s ⟨i1,i2,i3⟩=>by
  obtain⟨s,jj⟩:=s;dsimp only at i1 i2 i3;subst i1;unfold ref05_Boundaries_L1;dsimp only;rw [List.take_length]at i3;exact⟨_,by rw [if_neg (by omega)],i2,i3⟩) l.length 0 ([],0) (by omega) ⟨rfl,by simp,by simp [ends]⟩
 rw [h1];exact⟨b,rfl,h2,h3⟩
theorem ref12_Within_s {q:List Int}(hq:q.length≤1048576):ref12_Within q=some (q.filter dayB):=by
 unfold ref12_Within;have e2:=loopL (step:=ref12_Within_L1 q) (l:=q) rfl (fun l=>l.filter dayB) [] (fun i hi=>by
  have h1:=List.length_filter_le dayB (q.take i);have h2:(q.take i).length≤q.length:=by rw [List.length_take];omega
  rw [take_snoc hi,List.filter_append];have ha:=appS (b:=8) (show (((q.take i).filter dayB).length + [q[i]].length)*8≤140737488355328 by simp;omega);generalize ((q.take i).filter dayB)=w at *;unfold ref12_Within_L1;dsimp only;rw [if_pos (by omega),idxN hi,Option.bind_some,wsucc (by omega)];by_cases h3:1≤q[i]<;>by_cases h4:q[i]≤109572<;>simp [dayB,h3,h4,ha]) (fun x=>by unfold ref12_Within_L1;simp) rfl
 rw [List.nil_append]at e2;rw [e2];rfl
theorem ref15_ChangeDates_s {l:GLaw}(h:FewR l):∃r,ref15_ChangeDates l=some r∧r.length≤65536∧∀y,y∈r↔y∈(dsort (ends (tabR l.Tables++scoR l.Scopes))).filter dayB:=by
 have hnt:=h.nt;have hns:=h.ns;have h1:=tabR_len h.t;have h2:=scoR_len h.s;unfold ref15_ChangeDates;rw [ref15_L19_s h,Option.bind_some];dsimp only;rw [ref15_L18_s h (by omega),Option.bind_some];dsimp only;obtain⟨r,a1,a2,a3⟩:=ref05_Boundaries_s (l:=tabR l.Tables++scoR l.Scopes) (by simp;omega);rw [List.length_append]at a2;rw [a1,Option.bind_some,ref12_Within_s (by omega)];have:=List.length_filter_le dayB r;refine⟨_,rfl,by omega,fun y=>?_⟩;rw [List.mem_filter,List.mem_filter,a3,(dsort_inv _).2.2]
theorem ref34_insert_s {l:List Int}{x:Int}(hl:l.length≤1048576):∃r,ref34_insert l x=some r∧r.length≤l.length+1∧∀y,y∈r↔y∈l∨y=x:=by
 unfold ref34_insert;obtain⟨⟨b,d⟩,h1,h2,h3⟩:=loopJ (step:=ref34_insert_L1 l x) (fun j s=>s.2.2=(j:Int)∧s.1.length≤j+(if s.2.1=true then 1 else 0)∧∀y,y∈s.1↔y∈l.take j∨(s.2.1=true∧y=x)) l.length (fun b=>b.1.length≤l.length+(if b.2=true then 1 else 0)∧∀y,y∈b.1↔y∈l∨(b.2=true∧y=x)) (fun j s hj ⟨i1,i2,i3⟩=>by
  obtain⟨s,d,jj⟩:=s;dsimp only at i1 i2 i3;subst i1;have hs:s.length≤j+1:=by split at i2<;>omega
  unfold ref34_insert_L1;dsimp only;rw [if_pos (by omega),idxN hj,wsucc (by omega)];have ha1:=appS (b:=8) (l:=s) (r:=[x]) (by simp;omega);have ha2:=appS (b:=8) (l:=s) (r:=[l[j]]) (by simp;omega);have ha3:=appS (b:=8) (l:=s++[x]) (r:=[l[j]]) (by simp;omega);have ht:∀y,y∈l.take (j+1)↔y∈l.take j∨y=l[j]:=fun y=>by rw [take_snoc hj,List.mem_append,List.mem_singleton]
  cases d with
  |true=>
   refine⟨_,by simp [ha2];rfl,by dsimp only;omega,by dsimp only;simp at i2⊢;omega,fun y=>?_⟩;dsimp only;rw [List.mem_append,i3,ht];simp only [List.mem_cons,List.not_mem_nil,or_false];constructor
   ·rintro ((h|h)|h)
    ·exact .inl (.inl h)
    ·exact .inr h
    ·exact .inl (.inr h)
   ·rintro ((h|h)|h)
    ·exact .inl (.inl h)
    ·exact .inr h
    ·exact .inl (.inr h)
  |false=>
   simp at i2 i3;by_cases h1:x≤l[j]
   ·by_cases h2:x<l[j]
    ·refine⟨(s++[x]++[l[j]],true,((j+1:Nat):Int)),by simp [h1,h2,ha1];exact(by simpa using congrArg (fun o:Option (List Int)=>o.bind fun x15=>some (Ex.go (x15,true,(j:Int)+1):Ex _ (List Int×Bool) Unit)) ha3),rfl,by simp;omega,fun y=>?_⟩;dsimp only;rw [List.mem_append,List.mem_append,i3,ht];simp only [List.mem_cons,List.not_mem_nil,or_false,true_and];constructor
     ·rintro ((h|h)|h)
      ·exact .inl (.inl h)
      ·exact .inr h
      ·exact .inl (.inr h)
     ·rintro ((h|h)|h)
      ·exact .inl (.inl h)
      ·exact .inr h
      ·exact .inl (.inr h)
    ·have hx:x=l[j]:=by omega
     refine⟨_,by simp [h1,h2,ha2];rfl,by dsimp only;omega,by simp;omega,fun y=>?_⟩;dsimp only;rw [List.mem_append,i3,ht];simp only [List.mem_cons,List.not_mem_nil,or_false,true_and,hx];constructor
     ·exact .inl
     ·rintro (h|h)
      ·exact h
      ·exact .inr h
   ·refine⟨_,by simp [h1,ha2];rfl,by dsimp only;omega,by simp;omega,fun y=>?_⟩;dsimp only;rw [List.mem_append,i3,ht];simp) (fun s ⟨i1,i2,i3⟩=>by
  obtain⟨s,d,jj⟩:=s;dsimp only at i1 i2 i3;subst i1;unfold ref34_insert_L1;dsimp only;rw [List.take_length]at i3;exact⟨_,by rw [if_neg (by omega)],i2,i3⟩) l.length 0 ([],false,0) (by omega) ⟨rfl,by simp,by simp⟩
 rw [h1,Option.bind_some];dsimp only at h2 h3⊢
 cases d with
 |true=>exact⟨b,by simp,by simpa using h2,fun y=>by simpa using h3 y⟩
 |false=>
  simp at h2 h3;rw [if_pos rfl,appS (by simp;omega),Option.bind_some];exact⟨b++[x],rfl,by simp;omega,fun y=>by simp [h3]⟩
theorem ref34_ChangeDates_s {l:List GFact}(t1:Int) (hl:l.length≤65536):∃r,ref34_ChangeDates l t1=some r∧r.length≤2*l.length∧∀y,y∈r↔y∈(dsort (ends (knR t1 l))).filter dayB:=by
 unfold ref34_ChangeDates;obtain⟨b,h1,h2,h3⟩:=loopJ (step:=ref34_ChangeDates_L1 l t1) (fun j s=>s.2=(j:Int)∧s.1.length≤2*j∧∀y,y∈s.1↔y∈ends (knR t1 (l.take j))∧dayB y=true) l.length (fun b=>b.length≤2*l.length∧∀y,y∈b↔y∈ends (knR t1 l)∧dayB y=true) (fun j s hj ⟨i1,i2,i3⟩=>by
  obtain⟨s,jj⟩:=s;dsimp only at i1 i2 i3;subst i1;unfold ref34_ChangeDates_L1;dsimp only;rw [if_pos (by omega),idxN hj,wsucc (by omega)];simp only [Option.bind_some,ref34_nonempty_s];have hm:∀y,y∈ends (knR t1 (l.take (j+1)))↔y∈ends (knR t1 (l.take j))∨(known t1 l[j]=true∧(y=l[j].Valid.From∨y=l[j].Valid.To)):=fun y=>by
   rw [take_snoc hj,knR_app,ends_app,List.mem_append];cases hb:known t1 l[j]
   ·simp [knR,hb,ends]
   ·have:neB l[j].Valid=true:=by simp [known]at hb;exact hb.2
    simp [knR,hb,ends,this]
  cases hk:known t1 l[j]with
  |false=>
   refine⟨(s,((j+1:Nat):Int)),?_,rfl,by dsimp only;omega,fun y=>by dsimp only;rw [hm,hk,i3];simp⟩;unfold known at hk;by_cases h1:t1<l[j].Recorded
   ·simp [h1]
   ·have:l[j].Recorded≤t1:=by omega
    simp [this]at hk;simp [h1,hk]
  |true=>
   have hk':=hk;unfold known at hk;simp at hk;obtain⟨hr,hn⟩:=hk;have hn':=hn;unfold neB at hn;simp at hn;rw [if_pos (by omega)];simp only [hn',Bool.not_true,Option.bind_some,Bool.false_eq_true,if_false];obtain⟨r1,a1,a2,a3⟩:=ref34_insert_s (l:=s) (x:=l[j].Valid.From) (by omega);have hd1:∀y,y=l[j].Valid.From→(dayB y=true↔1≤l[j].Valid.From):=fun y hy=>by subst hy;simp [dayB];omega
   have hd2:∀y,y=l[j].Valid.To→(dayB y=true↔l[j].Valid.To≤109572):=fun y hy=>by subst hy;simp [dayB];omega
   obtain⟨q,q1,q2,q3⟩:∃q,(if 1≤l[j].Valid.From then (ref34_insert s l[j].Valid.From).bind fun x11=>some x11 else some s)=some q∧q.length≤s.length+1∧∀y,y∈q↔y∈s∨(y=l[j].Valid.From∧dayB y=true):=by
    by_cases h1:1≤l[j].Valid.From
    ·exact⟨r1,by rw [if_pos h1,a1];rfl,a2,fun y=>by rw [a3];constructor<;>rintro (h|h)<;>first|exact .inl h|exact .inr ⟨h,(hd1 y h).2 h1⟩|exact .inr h.1⟩
    ·exact⟨s,by rw [if_neg h1],by omega,fun y=>⟨.inl,by rintro (h|h);exact h;exact absurd ((hd1 y h.1).1 h.2) h1⟩⟩
   rw [q1,Option.bind_some];obtain⟨r2,b1,b2,b3⟩:=ref34_insert_s (l:=q) (x:=l[j].Valid.To) (by omega);obtain⟨p,p1,p2,p3⟩:∃p,(if l[j].Valid.To≤109572 then (ref34_insert q l[j].Valid.To).bind fun x15=>some x15 else some q)=some p∧p.length≤q.length+1∧∀y,y∈p↔y∈q∨(y=l[j].Valid.To∧dayB y=true):=by
    by_cases h1:l[j].Valid.To≤109572
    ·exact⟨r2,by rw [if_pos h1,b1];rfl,b2,fun y=>by rw [b3];constructor<;>rintro (h|h)<;>first|exact .inl h|exact .inr ⟨h,(hd2 y h).2 h1⟩|exact .inr h.1⟩
    ·exact⟨q,by rw [if_neg h1],by omega,fun y=>⟨.inl,by rintro (h|h);exact h;exact absurd ((hd2 y h.1).1 h.2) h1⟩⟩
   rw [p1,Option.bind_some];refine⟨_,rfl,rfl,by dsimp only;omega,fun y=>?_⟩;dsimp only;rw [p3,q3,i3,hm,hk'];constructor
   ·rintro ((h|h)|h)
    ·exact⟨.inl h.1,h.2⟩
    ·exact⟨.inr ⟨rfl,.inl h.1⟩,h.2⟩
    ·exact⟨.inr ⟨rfl,.inr h.1⟩,h.2⟩
   ·rintro ⟨h|⟨-,h|h⟩,hd⟩
    ·exact .inl (.inl ⟨h,hd⟩)
    ·exact .inl (.inr ⟨h,hd⟩)
    ·exact .inr ⟨h,hd⟩) (fun s ⟨i1,i2,i3⟩=>by
  obtain⟨s,jj⟩:=s;dsimp only at i1 i2 i3;subst i1;unfold ref34_ChangeDates_L1;dsimp only;rw [List.take_length]at i3;exact⟨_,by rw [if_neg (by omega)],i2,i3⟩) l.length 0 ([],0) (by omega) ⟨rfl,by simp,by simp [ends,knR]⟩
 rw [h1];refine⟨b,rfl,h2,fun y=>?_⟩;rw [h3,List.mem_filter,(dsort_inv _).2.2]
end Go.Proofs.Dev
namespace Go.Proofs.Dev
open Go Go.Tm
theorem loopK {σ β ρ:Type}{step:σ→Option (Ex σ β ρ)}(I:σ→Prop) (mu:σ→Nat) (Q:β→Prop) (h:∀s,I s→(∃s',step s=some (.go s')∧I s'∧mu s'<mu s)∨∃b,step s=some (.brk b)∧Q b) :
 ∀(n:Nat) (s:σ),mu s≤n→I s→∃b,loopO step s=some (.inl b)∧Q b
 |0,s,hn,hi=>by
  rcases h s hi with ⟨s',-,-,h3⟩|⟨b,h1,h2⟩
  ·omega
  ·exact⟨b,loopO_brk h1,h2⟩
 |n+1,s,hn,hi=>by
  rcases h s hi with ⟨s',h1,h2,h3⟩|⟨b,h1,h2⟩
  ·obtain⟨b,h4,h5⟩:=loopK I mu Q h n s' (by omega) h2;exact⟨b,by rw [loopO_go h1];exact h4,h5⟩
  ·exact⟨b,loopO_brk h1,h2⟩
theorem wu {n:Int}(h1:0≤n) (h2:n<9223372036854775808):wrapF .u64 n=n:=by
 simp only [wrapF];omega
theorem mid {i j:Nat}(h:i+j<4611686018427387904):wrapF .i64 (Int.fdiv (wrapF .u64 (wrapF .i64 ((i:Int)+(j:Int)))) 2)=(((i+j) / 2:Nat):Int):=by
 rw [wid (n:=(i:Int)+(j:Int)) (by omega) (by omega),wu (by omega) (by omega),Int.fdiv_eq_ediv_of_nonneg _ (by omega),wid (by omega) (by omega)];omega
theorem cmp_Less_s (x y:Int):cmp_Less_int x y=some (decide (x<y)):=by
 unfold cmp_Less_int cmp_isNaN_int;simp
theorem search_s {q:List Int}{t:Int}(hq:q.Pairwise (·<·)) (hl:q.length≤1048576):∃(k:Nat) (b:Bool),slices_BinarySearch_int_int q t=some ((k:Int),b)∧k≤q.length∧(∀i (hi:i<q.length),i<k→q[i]<t)∧∀i (hi:i<q.length),k≤i→t≤q[i]:=by
 have hp:=List.pairwise_iff_getElem.1 hq;unfold slices_BinarySearch_int_int;obtain⟨b,h1,k,rfl,h2,h3,h4⟩:=loopK (step:=slices_BinarySearch_int_int_L1 q t) (fun s=>∃i j:Nat,s=((i:Int),(j:Int))∧i≤j∧j≤q.length∧(∀p (hp:p<q.length),p<i→q[p]<t)∧∀p (hp:p<q.length),j≤p→t≤q[p]) (fun s=>(s.2-s.1).toNat) (fun b=>∃k:Nat,b=(k:Int)∧k≤q.length∧(∀i (hi:i<q.length),i<k→q[i]<t)∧∀i (hi:i<q.length),k≤i→t≤q[i]) (by
  rintro s ⟨i,j,rfl,a1,a2,a3,a4⟩;unfold slices_BinarySearch_int_int_L1;dsimp only;by_cases hij:i<j
  ·left;rw [if_pos (by omega),mid (by omega),idxN (show (i+j) / 2<q.length by omega),Option.bind_some,cmp_Less_s,Option.bind_some];by_cases hx:q[(i+j) / 2]'(by omega)<t
   ·refine⟨_,by rw [if_pos (by simpa using hx),wsucc (by omega)],⟨(i+j) / 2+1,j,rfl,by omega,a2,fun p hp' hpi=>?_,a4⟩,by dsimp only;omega⟩;rcases Nat.lt_or_ge p ((i+j) / 2)with h5|h5
    ·have:=hp p ((i+j) / 2) hp' (by omega) h5;omega
    ·have:p=(i+j) / 2:=by omega
     subst this;exact hx
   ·refine⟨_,by rw [if_neg (by simpa using hx)],⟨i,(i+j) / 2,rfl,by omega,by omega,a3,fun p hp' hpi=>?_⟩,by dsimp only;omega⟩;rcases Nat.lt_or_ge ((i+j) / 2) p with h5|h5
    ·have:=hp ((i+j) / 2) p (by omega) hp' h5;omega
    ·have:p=(i+j) / 2:=by omega
     subst this;omega
  ·right;have:i=j:=by omega
   subst this;exact⟨_,by rw [if_neg (by omega)],i,rfl,a2,a3,a4⟩) q.length (0,(q.length:Int)) (by simp) ⟨0,q.length,rfl,by omega,by omega,by omega,by omega⟩
 rw [h1,Option.bind_some];dsimp only;unfold slices_isNaN_int;by_cases hk:k<q.length
 ·rw [if_pos (by omega),idxN hk,Option.bind_some];by_cases he:q[k]=t
  ·exact⟨k,true,by simp [he],h2,h3,h4⟩
  ·exact⟨k,false,by simp [he],h2,h3,h4⟩
 ·exact⟨k,false,by rw [if_neg (by omega)];rfl,h2,h3,h4⟩
def partS (to:Int):Int→List Int→List GDateRange
 |a,[]=>[⟨a,to⟩]
 |a,x::l=>⟨a,x⟩::partS to x l
theorem partS_len {to:Int}:∀{a:Int}{l:List Int},(partS to a l).length=l.length+1
 |_,[]=>rfl
 |_,x::l=>by simp [partS,partS_len (a:=x) (l:=l)]
def inside (r:GDateRange) (x:Int):Bool:=decide (r.From<x)&&decide (x<r.To)
theorem award_divide_s {q:List Int}{r:GDateRange}(hq:q.Pairwise (·<·)) (hl:q.length≤65536) (hr:0≤r.From∧r.From<r.To∧r.To≤1000000):award_divide r q=some (partS r.To r.From (q.filter (inside r))):=by
 unfold award_divide;rw [wid (by omega) (by omega)];obtain⟨k,b,h1,h2,h3,h4⟩:=search_s (t:=r.From+1) hq (by omega);rw [h1,Option.bind_some];dsimp only;have hp:=List.pairwise_iff_getElem.1 hq;have hf:q.filter (inside r)=(q.drop k).filter fun x=>decide (x<r.To):=by
  conv=>lhs;rw [←List.take_append_drop k q]
  rw [List.filter_append];have e1:(q.take k).filter (inside r)=[]:=by
   rw [List.filter_eq_nil_iff];intro x hx;obtain⟨i,hi,rfl⟩:=List.getElem_of_mem hx;rw [List.length_take]at hi;have:=h3 i (by omega) (by omega);rw [List.getElem_take];simp [inside];omega
  rw [e1,List.nil_append];refine List.filter_congr fun x hx=>?_;obtain⟨i,hi,rfl⟩:=List.getElem_of_mem hx;rw [List.length_drop]at hi;have:=h4 (k+i) (by omega) (by omega);rw [List.getElem_drop];simp [inside];omega
 rw [hf];obtain⟨⟨s2,s3⟩,g1,g2,g3⟩:=loopK (step:=award_divide_L1 r q) (fun s=>∃j:Nat,s.2.2=(j:Int)∧j≤q.length∧s.2.1.length≤j∧partS r.To r.From ((q.drop k).filter fun x=>decide (x<r.To))=s.2.1++partS r.To s.1 ((q.drop j).filter fun x=>decide (x<r.To))) (fun s=>((q.length:Int)-s.2.2).toNat) (fun b=>b.2.length≤q.length∧partS r.To r.From ((q.drop k).filter fun x=>decide (x<r.To))=b.2++[⟨b.1,r.To⟩]) (by
  rintro ⟨s2,s3,s4⟩ ⟨j,i1,i2,i3,i4⟩;dsimp only at i1 i2 i3 i4;subst i1;unfold award_divide_L1;dsimp only;by_cases hj:j<q.length
  ·rw [if_pos (by omega),idxN hj,Option.bind_some,Option.bind_some];have hd:q.drop j=q[j]::q.drop (j+1):=List.drop_eq_getElem_cons hj;by_cases hx:q[j]<r.To
   ·left;refine⟨_,by rw [if_pos (by simpa using hx),Option.bind_some,appS (by simp;omega),Option.bind_some,wsucc (by omega)],⟨j+1,rfl,by omega,by simp;omega,?_⟩,by dsimp only;omega⟩;dsimp only;rw [i4,hd,List.filter_cons,if_pos (by simpa using hx)];simp [partS]
   ·right;refine⟨_,by rw [if_neg (by simpa using hx)],by dsimp only;omega,?_⟩;dsimp only;have:(q.drop j).filter (fun x=>decide (x<r.To))=[]:=by
     rw [List.filter_eq_nil_iff];intro x hx';obtain⟨i,hi,rfl⟩:=List.getElem_of_mem hx';rw [List.length_drop]at hi;rw [List.getElem_drop];rcases Nat.eq_zero_or_pos i with rfl|h0
     ·simpa using hx
     ·have:=hp j (j+i) hj (by omega) (by omega);simp;omega
    rw [i4,this];rfl
  ·right;refine⟨_,by rw [if_neg (by omega)];rfl,by dsimp only;omega,?_⟩;dsimp only;rw [i4,List.drop_eq_nil_of_le (by omega)];rfl) q.length (r.From,[],(k:Int)) (by dsimp only;omega) ⟨k,rfl,h2,by simp,by simp⟩
 rw [g1,Option.bind_some];dsimp only at g2 g3⊢;rw [appS (by simp;omega),Option.bind_some,g3]
theorem contains_s {l:List Int}(x:Int) (hl:l.length≤1048576):ref36_contains l x=some (l.contains x):=by
 unfold ref36_contains;have h:=loopF (step:=ref36_contains_L1 l x) (x0:=0) (fun i=>(i:Int)) (fun i=>if (l[i]?.any fun y=>y==x)=true then some true else none) l.length () (fun i hi _=>by
  unfold ref36_contains_L1;rw [if_pos (by omega),idxN hi,Option.bind_some,wsucc (by omega),List.getElem?_eq_getElem hi];by_cases hb:l[i]=x<;>simp [hb,goR]) (fun _=>by unfold ref36_contains_L1;simp)
 rw [h];have h2:=ff_any (l:=l) (q:=fun y=>y==x) (g:=fun _=>true);have h3:l.contains x=l.any fun y=>y==x:=by
  clear h h2 hl
  induction l with
  |nil=>rfl
  |cons y l ih=>
   rw [List.contains_cons,List.any_cons,ih];congr 1;exact Bool.eq_iff_iff.2 ⟨fun h=>beq_iff_eq.2 (beq_iff_eq.1 h).symm,fun h=>beq_iff_eq.2 (beq_iff_eq.1 h).symm⟩
 rw [h3,←h2]
 cases hf:ff (fun i=>if (l[i]?.any fun y=>y==x)=true then some true else none) l.length with
 |none=>rfl
 |some v=>
  obtain⟨j,-,j2,-⟩:=ff_some.1 hf;split at j2
  ·injection j2 with j2;subst j2;rfl
  ·cases j2
theorem ref36_divide_s {q a b:List Int}{r:GDateRange}(hq:q.Pairwise (·<·)) (ha:a.length≤1048576) (hb:b.length≤1048576) (hm:∀x,x∈q↔x∈a∨x∈b) (hr:0≤r.From∧r.From<r.To∧r.To≤1000000):ref36_divide r a b=some (partS r.To r.From (q.filter (inside r))):=by
 unfold ref36_divide;rw [wid (by omega) (by omega)];obtain⟨⟨s2,s3⟩,g1,g2,g3⟩:=loopK (step:=ref36_divide_L1 r a b) (fun s=>r.From<s.2.2∧s.2.2≤r.To∧s.1.length≤(s.2.2-r.From).toNat∧partS r.To r.From (q.filter (inside r))=s.1++partS r.To s.2.1 (q.filter fun x=>decide (s.2.2≤x)&&decide (x<r.To))) (fun s=>(r.To-s.2.2).toNat) (fun c=>c.1.length≤1000000∧partS r.To r.From (q.filter (inside r))=c.1++[⟨c.2,r.To⟩]) (by
  rintro ⟨s1,s2,d⟩ ⟨i1,i2,i3,i4⟩;dsimp only at i1 i2 i3 i4;unfold ref36_divide_L1;dsimp only;by_cases hd:d<r.To
  ·left;rw [if_pos hd,contains_s d ha,contains_s d hb,wid (n:=d+1) (by omega) (by omega)];have hc:(Option.bind (if a.contains d=false then some (b.contains d)else some true) fun j8=>(if j8=true then (app 16 s1 [GDateRange.mk s2 d]).bind fun x10=>some (x10,d)else some (s1,s2)))=if d∈q then some (s1++[⟨s2,d⟩],d)else some (s1,s2):=by
    have happ:=appS (b:=16) (l:=s1) (r:=[GDateRange.mk s2 d]) (by simp;omega);by_cases h1:d∈a
    ·have:d∈q:=(hm d).2 (.inl h1);simp [h1,this,happ]
    ·by_cases h2:d∈b
     ·have:d∈q:=(hm d).2 (.inr h2);simp [h1,h2,this,happ]
     ·have:d∉q:=fun h=>by rcases (hm d).1 h with h|h;exact h1 h;exact h2 h
      simp [h1,h2,this]
   have hsp:(q.filter fun x=>decide (d≤x)&&decide (x<r.To))=if d∈q then d::(q.filter fun x=>decide (d+1≤x)&&decide (x<r.To))else q.filter fun x=>decide (d+1≤x)&&decide (x<r.To):=by
    clear i4 hm hc
    induction q with
    |nil=>simp
    |cons x l ih=>
     have hq':=List.pairwise_cons.1 hq;have ih:=ih hq'.2;rcases Int.lt_trichotomy x d with h|h|h
     ·simp only [List.filter_cons,List.mem_cons,show¬d=x by omega,false_or,decide_eq_false (show¬d≤x by omega),decide_eq_false (show¬d+1≤x by omega),Bool.false_and,Bool.false_eq_true,if_false,ih]
     ·subst h;have hn:∀l:List Int,(∀y∈l,x<y)→(l.filter fun y=>decide (x≤y)&&decide (y<r.To))=l.filter fun y=>decide (x+1≤y)&&decide (y<r.To):=fun l hl=>List.filter_congr fun y hy=>by
       have:=hl y hy;rw [show decide (x≤y)=decide (x+1≤y)from decide_eq_decide.2 (by omega)]
      simp only [List.filter_cons,List.mem_cons,true_or,if_true,Int.le_refl,decide_true,decide_eq_true (show x<r.To by omega),decide_eq_false (show¬x+1≤x by omega),Bool.true_and,Bool.false_and,Bool.false_eq_true,if_false,hn l hq'.1]
     ·have hnm:d∉x::l:=by
       intro hmem;rcases List.mem_cons.1 hmem with h5|h5
       ·omega
       ·have:=hq'.1 d h5;omega
      rw [if_neg hnm];refine List.filter_congr fun y hy=>?_;have:d<y:=by
       rcases List.mem_cons.1 hy with rfl|h5
       ·exact h
       ·have:=hq'.1 y h5;omega
      simp only [decide_eq_true (show d≤y by omega),decide_eq_true (show d+1≤y by omega)]
   simp only [Option.bind_some];rw [show (Option.bind (if a.contains d=false then some (b.contains d)else some true) fun j8=>(if j8=true then (app 16 s1 [GDateRange.mk s2 d]).bind fun x10=>some (x10,d)else some (s1,s2)))=_ from hc];by_cases hdq:d∈q
   ·rw [if_pos hdq,Option.bind_some];refine⟨_,rfl,⟨by dsimp only;omega,by dsimp only;omega,by simp;omega,?_⟩,by dsimp only;omega⟩;dsimp only;rw [i4,hsp,if_pos hdq];simp [partS]
   ·rw [if_neg hdq,Option.bind_some];refine⟨_,rfl,⟨by dsimp only;omega,by dsimp only;omega,by dsimp only;omega,?_⟩,by dsimp only;omega⟩;dsimp only;rw [i4,hsp,if_neg hdq]
  ·right;refine⟨_,by rw [if_neg hd],by dsimp only;omega,?_⟩;dsimp only;have:(q.filter fun x=>decide (d≤x)&&decide (x<r.To))=[]:=by
    rw [List.filter_eq_nil_iff];intro x _;simp;omega
   rw [i4,this];rfl) 1000000 ([],r.From,r.From+1) (by dsimp only;omega) ⟨by dsimp only;omega,by dsimp only;omega,by simp,by
    dsimp only;rw [List.nil_append];congr 1⟩
 rw [g1,Option.bind_some];dsimp only at g2 g3⊢;rw [appS (by simp;omega),Option.bind_some,g3]
theorem concat_s {a b:List Int}(ha:a.length≤1048576) (hb:b.length≤1048576):award_changeDates_I5 [a,b]=some (a++b):=by
 unfold award_changeDates_I5;have e1:loopO (award_changeDates_L7 [a,b]) (0,0)=some (.inl ((a.length:Int)+b.length)):=by
  rw [loopO_go (s':=((a.length:Int),1)),loopO_go (s':=((a.length:Int)+b.length,2)),loopO_brk (b:=(a.length:Int)+b.length)]
  ·unfold award_changeDates_L7;simp
  ·unfold award_changeDates_L7;have:wrapF .i64 ((a.length:Int)+b.length)=(a.length:Int)+b.length:=wid (by omega) (by omega);simp [idx,this,wid];(try omega)
  ·unfold award_changeDates_L7;have:wrapF .i64 (a.length:Int)=(a.length:Int):=wid (by omega) (by omega);simp [idx,this,wid]
 rw [e1,Option.bind_some];dsimp only;have e2:award_changeDates_I4 ((a.length:Int)+b.length)=some []:=by
  unfold award_changeDates_I4;rw [if_neg (by omega)];have w0:wrapF .i64 (0-0)=0:=wid (by omega) (by omega);rw [w0,Int.sub_zero,wid (by omega) (by omega)];by_cases h:0<(a.length:Int)+b.length
  ·rw [if_pos h];have:mka 8 (0:Int) ((a.length:Int)+b.length)=some (List.replicate (a.length+b.length) 0):=by
    unfold mka;rw [if_pos ⟨h,by omega⟩];congr 2<;>omega
   rw [this,Option.bind_some];simp [subh]
  ·rw [if_neg h];rfl
 rw [e2,Option.bind_some];have e3:loopO (award_changeDates_L6 [a,b]) ([],0)=some (.inl (a++b)):=by
  rw [loopO_go (s':=(a,1)),loopO_go (s':=(a++b,2)),loopO_brk (b:=a++b)]
  ·unfold award_changeDates_L6;simp
  ·unfold award_changeDates_L6;simp [idx,appS (b:=8) (l:=a) (r:=b) (by omega),wid]
  ·unfold award_changeDates_L6;simp [idx,appS (b:=8) (l:=[]) (r:=a) (by simp;omega),wid]
 rw [e3];rfl
theorem same_DateRanges_refl {l:List GDateRange}(hl:l.length≤1048576):same_DateRanges l l=some true:=by
 unfold same_DateRanges;rw [if_neg (by simp)];have e:loopO (same_DateRanges_L1 l l) 0=some (.inl ()):=loopG (step:=same_DateRanges_L1 l l) (fun i=>(i:Int)) l.length () (fun i hi=>by
  unfold same_DateRanges_L1;simp only [show (i:Int)<(l.length:Int) by omega,if_true,decide_true,Option.bind_some,idxN hi];simp [wsucc (show i<4611686018427387904 by omega)]) (by unfold same_DateRanges_L1;simp) rfl
 rw [e];rfl
theorem pieces_s {l:GLaw}{h:GHousehold}(t t1:Int) (hl:FewR l) (hh:h.Facts.length≤40):∃p,award_Pieces l h t t1=some p∧ref36_Pieces l h t t1=some p∧p.length≤1048576:=by
 unfold award_Pieces ref36_Pieces;rw [month_Range_s,ref07_Range_s,Option.bind_some,Option.bind_some];by_cases h0:(rangeS t).2=0
 ·rw [if_neg (by simpa using h0),if_neg (by simpa using h0)];have hr:=rangeS_ok h0;have k1:=facts_ChangeDates_s (l:=h.Facts) t1 (by omega);have k2:=effective_ChangeDates_s hl;obtain⟨ra,a1,a2,a3⟩:=ref34_ChangeDates_s (l:=h.Facts) t1 (by omega);obtain⟨rb,b1,b2,b3⟩:=ref15_ChangeDates_s hl;have n1:=List.length_filter_le dayB (dsort (ends (knR t1 h.Facts)));have n2:=dsort_len (ends (knR t1 h.Facts));have n3:=ends_len (knR t1 h.Facts);have n4:=knR_len t1 h.Facts;have m1:=List.length_filter_le dayB (dsort (ends (tabR l.Tables++scoR l.Scopes)));have m2:=dsort_len (ends (tabR l.Tables++scoR l.Scopes));have m3:=ends_len (tabR l.Tables++scoR l.Scopes);have m4:=tabR_len hl.t;have m5:=scoR_len hl.s;have m6:=hl.nt;have m7:=hl.ns;rw [List.length_append]at m3;have hcd:award_changeDates l h t1=some (dsort ((dsort (ends (knR t1 h.Facts))).filter dayB++(dsort (ends (tabR l.Tables++scoR l.Scopes))).filter dayB)):=by
   unfold award_changeDates;rw [k1,Option.bind_some,k2,Option.bind_some];unfold lst;rw [Option.bind_some,concat_s (by omega) (by omega),Option.bind_some];exact sortc (by simp;omega)
  rw [hcd,Option.bind_some,a1,Option.bind_some,b1,Option.bind_some];generalize (dsort (ends (knR t1 h.Facts))).filter dayB=qa at *;generalize (dsort (ends (tabR l.Tables++scoR l.Scopes))).filter dayB=qb at *;obtain⟨d1,d2,d3⟩:=dsort_inv (qa++qb);rw [List.length_append]at d2;rw [award_divide_s d1 (by omega) hr,ref36_divide_s (q:=dsort (qa++qb)) d1 (by omega) (by omega) (fun x=>by rw [d3,List.mem_append,a3,b3]) hr];refine⟨_,rfl,rfl,?_⟩;rw [partS_len];have:=List.length_filter_le (inside (rangeS t).1) (dsort (qa++qb));omega
 ·rw [if_pos h0,if_pos h0];exact⟨[],rfl,rfl,by simp⟩
def LawSz (l:GLaw):Prop:=∀t∈l.Tables,t.Rows.length≤1125899906842624
theorem AwardPieces_plain (haw:law36_awake=some true) {l:GLaw}(hz:LawSz l) (h:GHousehold) (m rec:Int):law36_AwardPieces l h m rec=some true:=by
 unfold law36_AwardPieces same_SmallHousehold;obtain⟨b,hb,hb2⟩:=same_SmallLaw_s l;rw [hb,haw]
 cases b with
 |false=>rfl
 |true=>
  have hs:=hb2 rfl;by_cases hh:(h.Facts.length:Int)≤40
  ·have hf:FewR l:=⟨hs.nt,hs.ns,hs.rows hz,fun s hs'=>(hs.s s hs').rules⟩;obtain⟨p,p1,p2,p3⟩:=pieces_s m rec hf (h:=h) (by omega);simp [hh,p1,p2,same_DateRanges_refl p3]
  ·simp [hh]
end Go.Proofs.Dev
