/-
  Contracts of the functions: each answers as its plain partial function says.
-/
import Derived.Test.YtkmalfincghanaaGreatDoorK
import Derived.Test.YtkmalfincghanaaGreatDoorG
import Derived.Test.YtkmalfincghanaaGreatDoorPB
import Derived.Test.YtkmalfincghanaaGreatDoorW3
set_option linter.all false
set_option maxHeartbeats 1000000
set_option maxRecDepth 10000
namespace Go.Proofs.Dev
open Go Go.Tm
theorem law36_awake_ok {r : Bool} (h : law36_awake = some r) : Den Tryz.prog 10 [] (e_bool r) := by
  unfold law36_awake at h
  obtain rfl := Option.some.inj h
  exact awake_ok
instance {r}:Con (law36_awake=some r) (Den Tryz.prog 10 [] (e_bool r)):=⟨law36_awake_ok⟩
theorem same_SmallHousehold_ok {t0 r} (h:same_SmallHousehold t0=some r):Den Tryz.prog 14 [e_GHousehold t0] (e_bool r):=by
 refine dk 6 k14 ?_
 simp only [k14,Kf.of,zs,ze]
 unfold same_SmallHousehold at h
 exact pg trivial .o
instance {t0 r}:Con (same_SmallHousehold t0=some r) (Den Tryz.prog 14 [e_GHousehold t0] (e_bool r)):=⟨same_SmallHousehold_ok⟩
theorem same_DateRanges_ok {t0 t1 r} (h:same_DateRanges t0 t1=some r):Den Tryz.prog 15 [e_s_GDateRange t0,e_s_GDateRange t1] (e_bool r):=by
 refine dk 30 k15 ?_
 simp only [k15,Kf.of,zs,ze]
 unfold same_DateRanges at h
 exact pg @same_DateRanges_L1.eq_1 (.b .o (.l 1 0 (fun (s2:Int)=>⟨[.p 4,.k 1,.s (e_i64 s2)],[]⟩) (fun (_:Unit)=>⟨[],[]⟩) [] (.z 1 (.j 1 (fun (j4:Bool)=>⟨[.p 20,.s (e_bool j4),.p 11],[]⟩) (.b (.t []) (.t [])) (.b (.b .o (.t [])) (.t [])))) .o))
instance {t0 t1 r}:Con (same_DateRanges t0 t1=some r) (Den Tryz.prog 15 [e_s_GDateRange t0,e_s_GDateRange t1] (e_bool r)):=⟨same_DateRanges_ok⟩
theorem same_smallScope_ok {t0 r} (h:same_smallScope t0=some r):Den Tryz.prog 33 [e_GScope t0] (e_bool r):=by
 refine dk 92 k33 ?_
 simp only [k33,Kf.of,zs,ze]
 unfold same_smallScope at h
 exact pg (And.intro @same_smallScope_L3.eq_1 (And.intro @same_smallScope_L4.eq_1 @same_smallScope_L5.eq_1)) (.z 2 (.j 1 (fun (j4:Bool)=>⟨[.k 1,.p 1,.k 26,.s (e_bool j4),.p 64],[.o 0]⟩) (.b (.b (.b (.t [ok 0]) (.t [ok 0])) (.t [ok 0])) (.t [ok 0])) (.b .o (.l 1 0 (fun (s6:Int)=>⟨[.k 1,.p 2,.s (e_i64 s6),.p 24],[.o 0]⟩) (fun (_:Unit)=>⟨[.k 1,.p 2],[.o 0]⟩) [ok 0] (.b (.b .o (.t [ok 0])) (.t [ok 0])) (.l 1 0 (fun (s11:Int)=>⟨[.k 1,.p 3,.s (e_i64 s11),.p 88],[.o 0]⟩) (fun (_:Unit)=>⟨[.k 1,.p 3],[.o 0]⟩) [ok 0] (.b (.b .o (.t [ok 0])) (.t [ok 0])) (.l 1 0 (fun (s16:Int)=>⟨[.k 1,.p 4,.s (e_i64 s16),.p 87],[.o 0]⟩) (fun (_:Unit)=>⟨[],[]⟩) [ok 0] (.b (.z 2 (.j 1 (fun (j22:Bool)=>⟨[.k 1,.p 5,.k 86,.s (e_bool j22)],[.o 0]⟩) (.b (.b (.b (.t [ok 0]) (.t [ok 0])) (.t [ok 0])) (.t [ok 0])) (.b .o (.t [ok 0])))) (.t [])) .o))))))
instance {t0 r}:Con (same_smallScope t0=some r) (Den Tryz.prog 33 [e_GScope t0] (e_bool r)):=⟨same_smallScope_ok⟩
theorem month_valid_ok {t0 r} (h:month_valid t0=some r):Den Tryz.prog 37 [e_i64 t0] (e_bool r):=by
 refine dk 8 k37 ?_
 simp only [k37,Kf.of,zs,ze]
 unfold month_valid at h
 exact pg trivial (.z 1 (.j 1 (fun (j2:Bool)=>⟨[.k 2,.s (e_bool j2),.p 6],[]⟩) (.b (.t []) (.t [])) .o))
instance {t0 r}:Con (month_valid t0=some r) (Den Tryz.prog 37 [e_i64 t0] (e_bool r)):=⟨month_valid_ok⟩


theorem ref34_insert_ok {t0 t1 r} (h:ref34_insert t0 t1=some r):Den Tryz.prog 58 [e_s_i64 t0,e_i64 t1] (e_s_i64 r):=by
 refine dk 47 k58 ?_
 simp only [k58,Kf.of,zs,ze]
 unfold ref34_insert at h
 exact pg @ref34_insert_L1.eq_1 (.l 3 2 (fun (q:((List Int) × Bool × Int))=>⟨[.p 4,.k 1,.p 1,.s (e_bool q.2.1),.s (e_i64 q.2.2)],[.c 0 ((q.1.map e_i64))]⟩) (fun (q:((List Int) × Bool))=>⟨[.k 1,.p 3,.k 1,.p 1,.s (e_bool q.2)],[.c 0 ((q.1.map e_i64))]⟩) [ok 0] (.b (.z 1 (.j 2 (fun (q:((List Int) × Bool))=>⟨[.p 6,.s (e_bool q.2),.p 2],[.c 0 ((q.1.map e_i64))]⟩) (.j 1 (fun (j7:Bool)=>⟨[.p 9,.k 15,.s (e_bool j7),.p 24],[.o 0]⟩) (.b (.t [ok 0]) (.t [ok 0])) (.b (.b (.t [ov 0 1]) (.t [ok 0])) (.t [ok 0]))) (.t [ov 0 1]))) (.t [ok 0])) (.j 1 (fun (j23:(List Int))=>⟨[.k 5,.p 1],[.c 0 ((j23.map e_i64))]⟩) (.b (.t [ov 0 1]) (.t [ok 0])) .o))
instance {t0 t1 r}:Con (ref34_insert t0 t1=some r) (Den Tryz.prog 58 [e_s_i64 t0,e_i64 t1] (e_s_i64 r)):=⟨ref34_insert_ok⟩
theorem ref12_Within_ok {t0 r} (h:ref12_Within t0=some r):Den Tryz.prog 59 [e_s_i64 t0] (e_s_i64 r):=by
 refine dk 30 k59 ?_
 simp only [k59,Kf.of,zs,ze]
 unfold ref12_Within at h
 exact pg @ref12_Within_L1.eq_1 (.l 2 1 (fun (q:((List Int) × Int))=>⟨[.p 2,.k 1,.s (.own 0 0),.s (e_i64 q.2),.p 26],[.n 1 ((q.1.map e_i64))]⟩) (fun (b13:(List Int))=>⟨[.k 3,.s (.own 0 0)],[.n 1 ((b13.map e_i64))]⟩) [on 1] (.b (.j 1 (fun (j10:(List Int))=>⟨[.p 5],[.c 0 ((j10.map e_i64))]⟩) (.j 1 (fun (j6:Bool)=>⟨[.p 5,.k 17,.s (e_bool j6),.p 8],[.o 0]⟩) (.b (.t [ok 0]) (.t [ok 0])) (.b (.t [ov 0 1]) (.t [ok 0]))) (.t [ok 0])) (.t [ok 0])) .o)
instance {t0 r}:Con (ref12_Within t0=some r) (Den Tryz.prog 59 [e_s_i64 t0] (e_s_i64 r)):=⟨ref12_Within_ok⟩
theorem ref07_valid_ok {t0 r} (h:ref07_valid t0=some r):Den Tryz.prog 61 [e_i64 t0] (e_bool r):=by
 refine dk 8 k61 ?_
 simp only [k61,Kf.of,zs,ze]
 unfold ref07_valid at h
 exact pg trivial (.z 1 (.j 1 (fun (j2:Bool)=>⟨[.k 2,.s (e_bool j2),.p 6],[]⟩) (.b (.t []) (.t [])) .o))
instance {t0 r}:Con (ref07_valid t0=some r) (Den Tryz.prog 61 [e_i64 t0] (e_bool r)):=⟨ref07_valid_ok⟩
theorem ref36_contains_ok {t0 t1 r} (h:ref36_contains t0 t1=some r):Den Tryz.prog 63 [e_s_i64 t0,e_i64 t1] (e_bool r):=by
 refine dk 16 k63 ?_
 simp only [k63,Kf.of,zs,ze]
 unfold ref36_contains at h
 exact pg @ref36_contains_L1.eq_1 (.l 1 0 (fun (s1:Int)=>⟨[.p 4,.k 1,.s (e_i64 s1),.p 12],[]⟩) (fun (_:Unit)=>⟨[],[]⟩) [] (.b (.b .o (.t [])) (.t [])) .o)
instance {t0 t1 r}:Con (ref36_contains t0 t1=some r) (Den Tryz.prog 63 [e_s_i64 t0,e_i64 t1] (e_bool r)):=⟨ref36_contains_ok⟩
theorem slices_isNaN_int_ok {t0 r} (h:slices_isNaN_int t0=some r):Den Tryz.prog 83 [e_i64 t0] (e_bool r):=by
 refine dk 5 k83 ?_
 simp only [k83,Kf.of,zs,ze]
 unfold slices_isNaN_int at h
 exact pg trivial .o
instance {t0 r}:Con (slices_isNaN_int t0=some r) (Den Tryz.prog 83 [e_i64 t0] (e_bool r)):=⟨slices_isNaN_int_ok⟩
theorem effective_ChangeDates_c1_ok {t0 r} (h:effective_ChangeDates_c1 t0=some r):Den Tryz.prog 88 [e_i64 t0] (e_bool r):=by
 refine dk 8 k88 ?_
 simp only [k88,Kf.of,zs,ze]
 unfold effective_ChangeDates_c1 at h
 exact pg trivial (.z 1 (.j 1 (fun (j2:Bool)=>⟨[.k 2,.s (e_bool j2),.p 6],[]⟩) (.b (.t []) (.t [])) .o))
instance {t0 r}:Con (effective_ChangeDates_c1 t0=some r) (Den Tryz.prog 88 [e_i64 t0] (e_bool r)):=⟨effective_ChangeDates_c1_ok⟩
theorem ref05_Valid_ok {t0 r} (h:ref05_Valid t0=some r):Den Tryz.prog 110 [e_GDateRange t0] (e_bool r):=by
 refine dk 17 k110 ?_
 simp only [k110,Kf.of,zs,ze]
 unfold ref05_Valid at h
 exact pg trivial (.z 1 (.j 1 (fun (j3:Bool)=>⟨[.k 2,.s (e_bool j3),.p 15],[]⟩) (.b (.b (.t []) (.t [])) (.t [])) .o))
instance {t0 r}:Con (ref05_Valid t0=some r) (Den Tryz.prog 110 [e_GDateRange t0] (e_bool r)):=⟨ref05_Valid_ok⟩
theorem ref05_Insert_ok {t0 t1 r} (h:ref05_Insert t0 t1=some r):Den Tryz.prog 112 [e_s_i64 t0,e_i64 t1] (e_s_i64 r):=by
 refine dk 49 k112 ?_
 simp only [k112,Kf.of,zs,ze]
 unfold ref05_Insert at h
 exact pg (And.intro @ref05_Insert_L2.eq_1 @ref05_Insert_L3.eq_1) (.l 2 1 (fun (q:((List Int) × Int))=>⟨[.p 4,.k 1,.s (.own 0 0),.s (e_i64 q.2),.p 44],[.n 1 ((q.1.map e_i64))]⟩) (fun (b10:(List Int))=>⟨[.p 4,.k 1,.s (.own 0 0)],[.n 1 ((b10.map e_i64))]⟩) [on 1] (.b (.j 1 (fun (j7:(List Int))=>⟨[.p 8],[.c 0 ((j7.map e_i64))]⟩) (.b (.t [ov 0 1]) (.t [ok 0])) (.t [ok 0])) (.t [ok 0])) (.l 2 1 (fun (q:((List Int) × Int))=>⟨[.p 7,.s (e_i64 q.2),.p 19],[.c 0 ((q.1.map e_i64))]⟩) (fun (b21:(List Int))=>⟨[.k 5,.p 2],[.c 0 ((b21.map e_i64))]⟩) [ov 0 1] (.b (.j 1 (fun (j18:(List Int))=>⟨[.p 31],[.c 0 ((j18.map e_i64))]⟩) (.b (.t [ov 0 1]) (.t [ok 0])) (.t [ok 0])) (.t [ok 0])) .o))
instance {t0 t1 r}:Con (ref05_Insert t0 t1=some r) (Den Tryz.prog 112 [e_s_i64 t0,e_i64 t1] (e_s_i64 r)):=⟨ref05_Insert_ok⟩
theorem date_IsLeap_ok {t0 r} (h:date_IsLeap t0=some r):Den Tryz.prog 114 [e_i64 t0] (e_bool r):=by
 refine dk 15 k114 ?_
 simp only [k114,Kf.of,zs,ze]
 unfold date_IsLeap at h
 exact pg trivial (.z 1 (.j 1 (fun (j3:Bool)=>⟨[.k 2,.s (e_bool j3),.p 13],[]⟩) (.b (.b (.t []) (.t [])) (.t [])) .o))
instance {t0 r}:Con (date_IsLeap t0=some r) (Den Tryz.prog 114 [e_i64 t0] (e_bool r)):=⟨date_IsLeap_ok⟩
theorem date_leapYears_ok {t0 r} (h:date_leapYears t0=some r):Den Tryz.prog 115 [e_i64 t0] (e_i64 r):=by
 refine dk 10 k115 ?_
 simp only [k115,Kf.of,zs,ze]
 unfold date_leapYears at h
 exact pg trivial .o
instance {t0 r}:Con (date_leapYears t0=some r) (Den Tryz.prog 115 [e_i64 t0] (e_i64 r)):=⟨date_leapYears_ok⟩
theorem cmp_isNaN_int_ok {t0 r} (h:cmp_isNaN_int t0=some r):Den Tryz.prog 128 [e_i64 t0] (e_bool r):=by
 refine dk 5 k128 ?_
 simp only [k128,Kf.of,zs,ze]
 unfold cmp_isNaN_int at h
 exact pg trivial .o
instance {t0 r}:Con (cmp_isNaN_int t0=some r) (Den Tryz.prog 128 [e_i64 t0] (e_bool r)):=⟨cmp_isNaN_int_ok⟩
theorem daterange_Valid_ok {t0 r} (h:daterange_Valid t0=some r):Den Tryz.prog 129 [e_GDateRange t0] (e_bool r):=by
 refine dk 17 k129 ?_
 simp only [k129,Kf.of,zs,ze]
 unfold daterange_Valid at h
 exact pg trivial (.z 1 (.j 1 (fun (j3:Bool)=>⟨[.k 2,.s (e_bool j3),.p 15],[]⟩) (.b (.b (.t []) (.t [])) (.t [])) .o))
instance {t0 r}:Con (daterange_Valid t0=some r) (Den Tryz.prog 129 [e_GDateRange t0] (e_bool r)):=⟨daterange_Valid_ok⟩
theorem ref04_IsLeap_ok {t0 r} (h:ref04_IsLeap t0=some r):Den Tryz.prog 153 [e_i64 t0] (e_bool r):=by
 refine dk 15 k153 ?_
 simp only [k153,Kf.of,zs,ze]
 unfold ref04_IsLeap at h
 exact pg trivial (.z 1 (.j 1 (fun (j3:Bool)=>⟨[.k 2,.s (e_bool j3),.p 13],[]⟩) (.b (.b (.t []) (.t [])) (.t [])) .o))
instance {t0 r}:Con (ref04_IsLeap t0=some r) (Den Tryz.prog 153 [e_i64 t0] (e_bool r)):=⟨ref04_IsLeap_ok⟩
theorem same_SmallLaw_ok {t0 r} (h:same_SmallLaw t0=some r):Den Tryz.prog 13 [e_GLaw t0] (e_bool r):=by
 refine dk 126 k13 ?_
 simp only [k13,Kf.of,zs,ze]
 unfold same_SmallLaw at h
 exact pg (And.intro @same_SmallLaw_L11.eq_1 (And.intro @same_SmallLaw_L12.eq_1 (And.intro @same_SmallLaw_L13.eq_1 @same_SmallLaw_L8.eq_1))) (.z 2 (.j 1 (fun (j3:Bool)=>⟨[.k 1,.p 1,.k 22,.s (e_bool j3),.p 102],[.o 0]⟩) (.b (.b (.t [ok 0]) (.t [ok 0])) (.t [ok 0])) (.b .o (.l 1 0 (fun (s5:Int)=>⟨[.k 1,.p 4,.s (e_i64 s5),.p 18],[.o 0]⟩) (fun (_:Unit)=>⟨[.k 1,.p 4],[.o 0]⟩) [ok 0] (.b (.z 2 (.j 1 (fun (j9:Bool)=>⟨[.k 1,.p 24,.k 24,.s (e_bool j9),.p 77],[.o 0]⟩) (.b (.t [ok 0]) (.t [ok 0])) (.b .o (.l 1 0 (fun (s11:Int)=>⟨[.k 1,.p 5,.s (e_i64 s11),.p 42],[.o 0]⟩) (fun (_:Unit)=>⟨[.k 1,.p 5],[.o 0]⟩) [ok 0] (.b (.b .o (.t [ok 0])) (.t [ok 0])) (.t [ok 0]))))) (.t [ok 0])) (.l 2 0 (fun (q:(Int × Int))=>⟨[.k 1,.p 2,.s (e_i64 q.1),.p 3,.s (e_i64 q.2),.p 119],[.o 0]⟩) (fun (_:Unit)=>⟨[.k 1,.p 2,.k 1,.p 3],[.o 0]⟩) [ok 0] (.b (.z 2 (.j 1 (fun (j23:Bool)=>⟨[.k 1,.p 71,.k 27,.s (e_bool j23),.p 27],[.o 0]⟩) (.b (.t [ok 0]) (.t [ok 0])) (.b .o (.t [ok 0])))) (.t [ok 0])) (.l 2 0 (fun (q:(Int × Int))=>⟨[.k 1,.p 3,.s (e_i64 q.1),.p 3,.s (e_i64 q.2),.p 118],[.o 0]⟩) (fun (_:Unit)=>⟨[],[]⟩) [ok 0] (.b (.z 2 (.j 1 (fun (j33:Bool)=>⟨[.k 1,.p 99,.k 26,.s (e_bool j33)],[.o 0]⟩) (.b (.t [ok 0]) (.t [ok 0])) (.b .o (.t [ok 0])))) (.t [])) .o))))))
instance {t0 r}:Con (same_SmallLaw t0=some r) (Den Tryz.prog 13 [e_GLaw t0] (e_bool r)):=⟨same_SmallLaw_ok⟩
theorem ref36_divide_ok {t0 t1 t2 r} (h:ref36_divide t0 t1 t2=some r):Den Tryz.prog 35 [e_GDateRange t0,e_s_i64 t1,e_s_i64 t2] (e_s_GDateRange r):=by
 refine dk 40 k35 ?_
 simp only [k35,Kf.of,zs,ze]
 unfold ref36_divide at h
 exact pg @ref36_divide_L1.eq_1 (.l 3 2 (fun (q:((List GDateRange) × Int × Int))=>⟨[.k 1,.p 5,.k 1,.s (.own 1 0),.s (e_i64 q.2.1),.s (e_i64 q.2.2)],[.o 0,.n 2 ((q.1.map e_GDateRange))]⟩) (fun (q:((List GDateRange) × Int))=>⟨[.k 3,.p 3,.k 1,.s (.own 1 0),.s (e_i64 q.2)],[.o 0,.n 2 ((q.1.map e_GDateRange))]⟩) [ok 0,on 2] (.b (.j 2 (fun (q:((List GDateRange) × Int))=>⟨[.k 1,.p 7,.s (e_i64 q.2),.p 6],[.o 0,.c 1 ((q.1.map e_GDateRange))]⟩) (.j 1 (fun (j8:Bool)=>⟨[.k 1,.p 14,.k 13,.s (e_bool j8),.p 14],[.o 0,.o 1]⟩) (.b (.t [ok 0,ok 1]) (.t [ok 0,ok 1])) (.b (.t [ok 0,ov 1 1]) (.t [ok 0,ok 1]))) (.t [ok 0,ok 1])) (.t [ok 0,ok 1])) .o)
instance {t0 t1 t2 r}:Con (ref36_divide t0 t1 t2=some r) (Den Tryz.prog 35 [e_GDateRange t0,e_s_i64 t1,e_s_i64 t2] (e_s_GDateRange r)):=⟨ref36_divide_ok⟩
theorem ref34_nonempty_ok {t0 r} (h:ref34_nonempty t0=some r):Den Tryz.prog 57 [e_GDateRange t0] (e_bool r):=by
 refine dk 11 k57 ?_
 simp only [k57,Kf.of,zs,ze]
 unfold ref34_nonempty at h
 exact pg trivial (.z 1 (.j 1 (fun (j3:Bool)=>⟨[.k 2,.s (e_bool j3),.p 9],[]⟩) (.b (.t []) (.t [])) .o))
instance {t0 r}:Con (ref34_nonempty t0=some r) (Den Tryz.prog 57 [e_GDateRange t0] (e_bool r)):=⟨ref34_nonempty_ok⟩
theorem date_DaysInMonth_ok {t0 t1 r} (h:date_DaysInMonth t0 t1=some r):Den Tryz.prog 64 [e_i64 t0,e_i64 t1] (e_i64 r):=by
 refine dk 19 k64 ?_
 simp only [k64,Kf.of,zs,ze]
 unfold date_DaysInMonth at h
 exact pg trivial (.z 2 (.j 1 (fun (j2:Bool)=>⟨[.p 4,.k 6,.s (e_bool j2),.p 10],[]⟩) (.b (.t []) (.t [])) (.b .o (.z 1 (.j 1 (fun (j6:Bool)=>⟨[.k 1,.p 9,.k 6,.s (e_bool j6),.p 4],[]⟩) (.b (.t []) (.t [])) .o)))))
instance {t0 t1 r}:Con (date_DaysInMonth t0 t1=some r) (Den Tryz.prog 64 [e_i64 t0,e_i64 t1] (e_i64 r)):=⟨date_DaysInMonth_ok⟩
theorem date_yearStart_ok {t0 r} (h:date_yearStart t0=some r):Den Tryz.prog 65 [e_i64 t0] (e_i64 r):=by
 refine dk 11 k65 ?_
 simp only [k65,Kf.of,zs,ze]
 unfold date_yearStart at h
 exact pg trivial .o
instance {t0 r}:Con (date_yearStart t0=some r) (Den Tryz.prog 65 [e_i64 t0] (e_i64 r)):=⟨date_yearStart_ok⟩
theorem cmp_Less_int_ok {t0 t1 r} (h:cmp_Less_int t0 t1=some r):Den Tryz.prog 82 [e_i64 t0,e_i64 t1] (e_bool r):=by
 refine dk 15 k82 ?_
 simp only [k82,Kf.of,zs,ze]
 unfold cmp_Less_int at h
 exact pg trivial (.z 1 (.j 1 (fun (j5:Bool)=>⟨[.k 4,.s (e_bool j5),.p 12],[]⟩) (.b (.b (.t []) (.t [])) (.t [])) .o))
instance {t0 t1 r}:Con (cmp_Less_int t0 t1=some r) (Den Tryz.prog 82 [e_i64 t0,e_i64 t1] (e_bool r)):=⟨cmp_Less_int_ok⟩
theorem facts_nonempty_ok {t0 r} (h:facts_nonempty t0=some r):Den Tryz.prog 85 [e_GDateRange t0] (e_bool r):=by
 refine dk 11 k85 ?_
 simp only [k85,Kf.of,zs,ze]
 unfold facts_nonempty at h
 exact pg trivial (.z 1 (.j 1 (fun (j3:Bool)=>⟨[.k 2,.s (e_bool j3),.p 9],[]⟩) (.b (.t []) (.t [])) .o))
instance {t0 r}:Con (facts_nonempty t0=some r) (Den Tryz.prog 85 [e_GDateRange t0] (e_bool r)):=⟨facts_nonempty_ok⟩
theorem ref04_DaysInMonth_ok {t0 t1 r} (h:ref04_DaysInMonth t0 t1=some r):Den Tryz.prog 109 [e_i64 t0,e_i64 t1] (e_i64 r):=by
 refine dk 21 k109 ?_
 simp only [k109,Kf.of,zs,ze]
 unfold ref04_DaysInMonth at h
 exact pg trivial (.b .o (.j 1 (fun (j7:Bool)=>⟨[.k 5,.p 1,.k 4,.s (e_bool j7),.p 12],[]⟩) (.b (.t []) (.b (.t []) (.b (.t []) (.t [])))) (.b .o (.j 1 (fun (j15:Bool)=>⟨[.k 15,.s (e_bool j15),.p 7],[]⟩) (.b (.t []) (.b (.t []) (.b (.t []) (.b (.t []) (.b (.t []) (.b (.t []) (.t []))))))) .o))))
instance {t0 t1 r}:Con (ref04_DaysInMonth t0 t1=some r) (Den Tryz.prog 109 [e_i64 t0,e_i64 t1] (e_i64 r)):=⟨ref04_DaysInMonth_ok⟩
theorem ref05_nonempty_ok {t0 r} (h:ref05_nonempty t0=some r):Den Tryz.prog 111 [e_GDateRange t0] (e_bool r):=by
 refine dk 11 k111 ?_
 simp only [k111,Kf.of,zs,ze]
 unfold ref05_nonempty at h
 exact pg trivial (.z 1 (.j 1 (fun (j3:Bool)=>⟨[.k 2,.s (e_bool j3),.p 9],[]⟩) (.b (.t []) (.t [])) .o))
instance {t0 r}:Con (ref05_nonempty t0=some r) (Den Tryz.prog 111 [e_GDateRange t0] (e_bool r)):=⟨ref05_nonempty_ok⟩
theorem ref04_daysInYear_ok {t0 r} (h:ref04_daysInYear t0=some r):Den Tryz.prog 113 [e_i64 t0] (e_i64 r):=by
 refine dk 4 k113 ?_
 simp only [k113,Kf.of,zs,ze]
 unfold ref04_daysInYear at h
 exact pg trivial .o
instance {t0 r}:Con (ref04_daysInYear t0=some r) (Den Tryz.prog 113 [e_i64 t0] (e_i64 r)):=⟨ref04_daysInYear_ok⟩
theorem daterange_hasDate_ok {t0 r} (h:daterange_hasDate t0=some r):Den Tryz.prog 130 [e_GDateRange t0] (e_bool r):=by
 refine dk 11 k130 ?_
 simp only [k130,Kf.of,zs,ze]
 unfold daterange_hasDate at h
 exact pg trivial (.z 1 (.j 1 (fun (j3:Bool)=>⟨[.k 2,.s (e_bool j3),.p 9],[]⟩) (.b (.t []) (.t [])) .o))
instance {t0 r}:Con (daterange_hasDate t0=some r) (Den Tryz.prog 130 [e_GDateRange t0] (e_bool r)):=⟨daterange_hasDate_ok⟩
theorem ref34_ChangeDates_ok {t0 t1 r} (h:ref34_ChangeDates t0 t1=some r):Den Tryz.prog 31 [e_s_GFact t0,e_i64 t1] (e_s_i64 r):=by
 refine dk 59 k31 ?_
 simp only [k31,Kf.of,zs,ze]
 unfold ref34_ChangeDates at h
 exact pg @ref34_ChangeDates_L1.eq_1 (.l 2 1 (fun (q:((List Int) × Int))=>⟨[.p 4,.k 1,.s (e_s_i64 q.1),.s (e_i64 q.2)],[]⟩) (fun (b19:(List Int))=>⟨[.k 5,.s (e_s_i64 b19)],[]⟩) [] (.b (.j 1 (fun (j16:(List Int))=>⟨[.p 5,.s (e_s_i64 j16),.p 2],[]⟩) (.z 1 (.j 1 (fun (j7:Bool)=>⟨[.p 8,.k 21,.s (e_bool j7),.p 31],[]⟩) (.b (.t []) (.t [])) (.b (.t []) (.j 1 (fun (j12:(List Int))=>⟨[.p 5,.s (e_s_i64 j12),.p 23],[]⟩) (.b (.t []) (.t [])) (.b (.t []) (.t [])))))) (.t [])) (.t [])) .o)
instance {t0 t1 r}:Con (ref34_ChangeDates t0 t1=some r) (Den Tryz.prog 31 [e_s_GFact t0,e_i64 t1] (e_s_i64 r)):=⟨ref34_ChangeDates_ok⟩
theorem date_FromYMD_ok {t0 t1 t2 r} (h:date_FromYMD t0 t1 t2=some r):Den Tryz.prog 38 [e_i64 t0,e_i64 t1,e_i64 t2] (.tup [e_i64 r.1,e_i64 r.2]):=by
 refine dk 50 k38 ?_
 simp only [k38,Kf.of,zs,ze]
 unfold date_FromYMD at h
 exact pg @date_FromYMD_L1.eq_1 (.z 2 (.j 1 (fun (j7:Bool)=>⟨[.p 6,.k 28,.s (e_bool j7),.p 18],[]⟩) (.b (.b (.b (.b (.b (.t []) (.t [])) (.t [])) (.t [])) (.t [])) (.t [])) (.b .o (.l 2 1 (fun (q:(Int × Int))=>⟨[.p 1,.k 1,.p 6,.s (e_i64 q.1),.p 25,.k 4,.p 1,.s (e_i64 q.2),.p 13],[]⟩) (fun (b16:Int)=>⟨[.k 2,.p 6,.s (e_i64 b16),.p 25],[]⟩) [] (.b (.t []) (.t [])) .o))))
instance {t0 t1 t2 r}:Con (date_FromYMD t0 t1 t2=some r) (Den Tryz.prog 38 [e_i64 t0,e_i64 t1,e_i64 t2] (.tup [e_i64 r.1,e_i64 r.2])):=⟨date_FromYMD_ok⟩
theorem month_Days_ok {t0 r} (h:month_Days t0=some r):Den Tryz.prog 39 [e_i64 t0] (e_i64 r):=by
 refine dk 12 k39 ?_
 simp only [k39,Kf.of,zs,ze]
 unfold month_Days at h
 exact pg trivial .o
instance {t0 r}:Con (month_Days t0=some r) (Den Tryz.prog 39 [e_i64 t0] (e_i64 r)):=⟨month_Days_ok⟩
theorem slices_BinarySearch_int_int_ok {t0 t1 r} (h:slices_BinarySearch_int_int t0 t1=some r):Den Tryz.prog 45 [e_s_i64 t0,e_i64 t1] (.tup [e_i64 r.1,e_bool r.2]):=by
 refine dk 52 k45 ?_
 simp only [k45,Kf.of,zs,ze]
 unfold slices_BinarySearch_int_int at h
 exact pg @slices_BinarySearch_int_int_L1.eq_1 (.l 2 1 (fun (q:(Int × Int))=>⟨[.p 4,.k 2,.p 1,.s (e_i64 q.1),.s (e_i64 q.2),.p 1],[]⟩) (fun (b9:Int)=>⟨[.p 4,.k 2,.p 1,.s (e_i64 b9)],[]⟩) [] (.b (.b (.t []) (.t [])) (.t [])) (.j 1 (fun (j16:Bool)=>⟨[.k 4,.y 7,.s (e_bool j16)],[]⟩) (.b (.b (.b (.t []) (.t [])) (.t [])) (.t [])) .o))
instance {t0 t1 r}:Con (slices_BinarySearch_int_int t0 t1=some r) (Den Tryz.prog 45 [e_s_i64 t0,e_i64 t1] (.tup [e_i64 r.1,e_bool r.2])):=⟨slices_BinarySearch_int_int_ok⟩
theorem effective_ChangeDates_ok {t0 r} (h:effective_ChangeDates t0=some r):Den Tryz.prog 48 [e_GLaw t0] (e_s_i64 r):=by
 refine dk 56 k48 ?_
 simp only [k48,Kf.of,zs,ze]
 unfold effective_ChangeDates at h
 exact pg (And.intro @effective_ChangeDates_I7.eq_1 (And.intro @effective_ChangeDates_L33.eq_1 (And.intro @effective_ChangeDates_I6.eq_1 (And.intro @effective_ChangeDates_L31.eq_1 (And.intro @effective_ChangeDates_I4.eq_1 (And.intro @effective_ChangeDates_L27.eq_1 (And.intro @effective_ChangeDates_L34.eq_1 (And.intro @effective_ChangeDates_L17.eq_1 (And.intro @effective_ChangeDates_L35.eq_1 (And.intro @effective_ChangeDates_L8.eq_1 (And.intro @k131.eq_1 (And.intro @k87.eq_1 @k86.eq_1)))))))))))) (.l 2 1 (fun (q:((List GDateRange) × Int))=>⟨[.k 1,.p 1,.k 1,.s (.own 1 0),.p 8,.k 1,.p 2,.s (e_i64 q.2),.p 41],[.o 0,.n 2 ((q.1.map e_GDateRange))]⟩) (fun (b15:(List GDateRange))=>⟨[.k 1,.p 1,.k 1,.s (.own 1 0),.p 8],[.o 0,.n 2 ((b15.map e_GDateRange))]⟩) [ok 0,on 2] (.b (.l 2 1 (fun (q:((List GDateRange) × Int))=>⟨[.k 1,.p 4,.k 8,.p 3,.k 4,.p 2,.s (e_i64 q.2),.p 34],[.o 0,.c 1 ((q.1.map e_GDateRange))]⟩) (fun (b12:(List GDateRange))=>⟨[.k 1,.p 4,.k 8,.p 3],[.o 0,.c 1 ((b12.map e_GDateRange))]⟩) [ok 0,ok 1] (.b (.t [ok 0,ov 1 1]) (.t [ok 0,ok 1])) (.t [ok 0,ok 1])) (.t [ok 0,ok 1])) (.l 2 1 (fun (q:((List GDateRange) × Int))=>⟨[.k 3,.p 30,.k 1,.p 2,.s (e_i64 q.2),.p 20],[.c 1 ((q.1.map e_GDateRange))]⟩) (fun (b30:(List GDateRange))=>⟨[.k 3,.p 30],[.c 1 ((b30.map e_GDateRange))]⟩) [ok 1] (.b (.l 2 1 (fun (q:((List GDateRange) × Int))=>⟨[.k 3,.p 6,.k 25,.p 3,.k 4,.p 2,.s (e_i64 q.2),.p 13],[.c 0 ((q.1.map e_GDateRange))]⟩) (fun (b27:(List GDateRange))=>⟨[.k 3,.p 6,.k 25,.p 3],[.c 0 ((b27.map e_GDateRange))]⟩) [ok 0] (.b (.t [ov 0 1]) (.t [ok 0])) (.t [ok 0])) (.t [ok 0])) (.i k86 1 25 (fun (i44:(List Int))=>⟨[.s (.own 1 0)],[.O 0,.n 1 ((i44.map e_i64))]⟩) (.l 2 1 (fun (q:((List Int) × Int))=>⟨[.k 3,.s (.own 1 0),.p 4,.s (e_i64 q.2),.p 17],[.O 0,.n 1 ((q.1.map e_i64))]⟩) (fun (b41:(List Int))=>⟨[.k 3,.s (.own 1 0),.p 2],[.O 0,.n 1 ((b41.map e_i64))]⟩) [ok 0,on 1] (.b (.j 1 (fun (j38:(List Int))=>⟨[.k 3,.p 6],[.O 0,.c 1 ((j38.map e_i64))]⟩) (.b (.t [ok 0,ov 1 1]) (.t [ok 0,ok 1])) (.t [ok 0,ok 1])) (.t [ok 0,ok 1])) (.t [ok 0,ov 1 1])) (.c k87 40 (.i k131 1 17 (fun (i51:Int)=>⟨[.s (e_i64 i51)],[.O 0,.O 1]⟩) (.l 1 0 (fun (s45:Int)=>⟨[.p 4,.k 3,.p 1,.s (e_i64 s45),.p 10],[.O 0,.O 1]⟩) (fun (_:Unit)=>⟨[],[.O 0,.O 1]⟩) [ok 0,ok 1] (.b (.b (.t [ok 0,ok 1]) (.t [ok 0,ok 1])) (.t [ok 0,ok 1])) (.t [ok 0,ok 1])) (.b (.v .o) (.l 3 2 (fun (q:((List Int) × Int × Int))=>⟨[.p 4,.k 1,.s (e_i64 q.2.1),.s (e_i64 q.2.2),.p 1],[.O 0,.C 1 ((q.1.map e_i64))]⟩) (fun (q:((List Int) × Int))=>⟨[.p 1,.k 4,.s (e_i64 q.2)],[.O 0,.C 1 ((q.1.map e_i64))]⟩) [ok 0,ok 1] (.b (.j 2 (fun (q:((List Int) × Int))=>⟨[.p 5,.s (e_i64 q.2),.p 10],[.O 0,.C 1 ((q.1.map e_i64))]⟩) (.b (.t [ok 0,ok 1]) (.t [ok 0,ok 1])) (.t [ok 0,ok 1])) (.t [ok 0,ok 1])) (.v .o))))))))
instance {t0 r}:Con (effective_ChangeDates t0=some r) (Den Tryz.prog 48 [e_GLaw t0] (e_s_i64 r)):=⟨effective_ChangeDates_ok⟩
theorem ref07_Days_ok {t0 r} (h:ref07_Days t0=some r):Den Tryz.prog 56 [e_i64 t0] (e_i64 r):=by
 refine dk 12 k56 ?_
 simp only [k56,Kf.of,zs,ze]
 unfold ref07_Days at h
 exact pg trivial .o
instance {t0 r}:Con (ref07_Days t0=some r) (Den Tryz.prog 56 [e_i64 t0] (e_i64 r)):=⟨ref07_Days_ok⟩
theorem ref05_Boundaries_ok {t0 r} (h:ref05_Boundaries t0=some r):Den Tryz.prog 60 [e_s_GDateRange t0] (e_s_i64 r):=by
 refine dk 29 k60 ?_
 simp only [k60,Kf.of,zs,ze]
 unfold ref05_Boundaries at h
 exact pg @ref05_Boundaries_L1.eq_1 (.l 2 1 (fun (q:((List Int) × Int))=>⟨[.p 2,.k 1,.s (e_s_i64 q.1),.s (e_i64 q.2),.p 25],[]⟩) (fun (b12:(List Int))=>⟨[.k 3,.s (e_s_i64 b12)],[]⟩) [] (.b (.j 1 (fun (j9:(List Int))=>⟨[.p 3,.s (e_s_i64 j9),.p 1],[]⟩) (.b (.t []) (.t [])) (.t [])) (.t [])) .o)
instance {t0 r}:Con (ref05_Boundaries t0=some r) (Den Tryz.prog 60 [e_s_GDateRange t0] (e_s_i64 r)):=⟨ref05_Boundaries_ok⟩
theorem ref04_FromYMD_ok {t0 t1 t2 r} (h:ref04_FromYMD t0 t1 t2=some r):Den Tryz.prog 62 [e_i64 t0,e_i64 t1,e_i64 t2] (.tup [e_i64 r.1,e_i64 r.2]):=by
 refine dk 47 k62 ?_
 simp only [k62,Kf.of,zs,ze]
 unfold ref04_FromYMD at h
 exact pg (And.intro @ref04_FromYMD_L2.eq_1 @ref04_FromYMD_L3.eq_1) (.z 2 (.j 1 (fun (j5:Bool)=>⟨[.p 6,.k 21,.s (e_bool j5),.p 22],[]⟩) (.b (.b (.b (.t []) (.t [])) (.t [])) (.t [])) (.b .o (.l 2 1 (fun (q:(Int × Int))=>⟨[.p 2,.k 6,.s (e_i64 q.1),.s (e_i64 q.2),.p 17],[]⟩) (fun (b13:Int)=>⟨[.p 2,.k 6,.s (e_i64 b13)],[]⟩) [] (.b (.t []) (.t [])) (.l 2 1 (fun (q:(Int × Int))=>⟨[.p 8,.s (e_i64 q.1),.p 1,.s (e_i64 q.2),.p 39],[]⟩) (fun (b20:Int)=>⟨[.k 8,.s (e_i64 b20),.p 1],[]⟩) [] (.b (.t []) (.t [])) .o)))))
instance {t0 t1 t2 r}:Con (ref04_FromYMD t0 t1 t2=some r) (Den Tryz.prog 62 [e_i64 t0,e_i64 t1,e_i64 t2] (.tup [e_i64 r.1,e_i64 r.2])):=⟨ref04_FromYMD_ok⟩
theorem daterange_Boundaries_ok {t0 r} (h:daterange_Boundaries t0=some r):Den Tryz.prog 86 [e_s_GDateRange t0] (e_s_i64 r):=by
 refine dk 25 k86 ?_
 simp only [k86,Kf.of,zs,ze]
 unfold daterange_Boundaries at h
 exact pg @daterange_Boundaries_L1.eq_1 (.l 2 1 (fun (q:((List Int) × Int))=>⟨[.k 3,.s (.own 0 0),.p 4,.s (e_i64 q.2),.p 17],[.n 1 ((q.1.map e_i64))]⟩) (fun (b11:(List Int))=>⟨[.k 3,.s (.own 0 0),.p 2],[.n 1 ((b11.map e_i64))]⟩) [on 1] (.b (.j 1 (fun (j8:(List Int))=>⟨[.k 3,.p 6],[.c 0 ((j8.map e_i64))]⟩) (.b (.t [ov 0 1]) (.t [ok 0])) (.t [ok 0])) (.t [ok 0])) .o)
instance {t0 r}:Con (daterange_Boundaries t0=some r) (Den Tryz.prog 86 [e_s_GDateRange t0] (e_s_i64 r)):=⟨daterange_Boundaries_ok⟩
theorem month_Range_ok {t0 r} (h:month_Range t0=some r):Den Tryz.prog 19 [e_i64 t0] (.tup [e_GDateRange r.1,e_i64 r.2]):=by
 refine dk 29 k19 ?_
 simp only [k19,Kf.of,zs,ze]
 unfold month_Range at h
 exact pg trivial .o
instance {t0 r}:Con (month_Range t0=some r) (Den Tryz.prog 19 [e_i64 t0] (.tup [e_GDateRange r.1,e_i64 r.2])):=⟨month_Range_ok⟩
theorem award_divide_ok {t0 t1 r} (h:award_divide t0 t1=some r):Den Tryz.prog 27 [e_GDateRange t0,e_s_i64 t1] (e_s_GDateRange r):=by
 refine dk 48 k27 ?_
 simp only [k27,Kf.of,zs,ze]
 unfold award_divide at h
 exact pg @award_divide_L1.eq_1 (.l 3 2 (fun (q:(Int × (List GDateRange) × Int))=>⟨[.k 1,.p 3,.k 1,.s (.own 1 0),.s (e_i64 q.2.2)],[.h 0 [.g [.s (e_i64 q.1),.p 1]],.n 2 ((q.2.1.map e_GDateRange))]⟩) (fun (q:(Int × (List GDateRange)))=>⟨[.k 2,.p 2,.k 1,.s (.own 1 0)],[.h 0 [.g [.s (e_i64 q.1),.p 1]],.n 2 ((q.2.map e_GDateRange))]⟩) [ok 0,on 2] (.z 1 (.j 1 (fun (j7:Bool)=>⟨[.k 1,.p 27,.s (e_bool j7),.p 21],[.o 0,.o 1]⟩) (.b (.t [ok 0,ok 1]) (.t [ok 0,ok 1])) (.b (.t [ok 0,ov 1 1]) (.t [ok 0,ok 1])))) .o)
instance {t0 t1 r}:Con (award_divide t0 t1=some r) (Den Tryz.prog 27 [e_GDateRange t0,e_s_i64 t1] (e_s_GDateRange r)):=⟨award_divide_ok⟩
theorem ref15_ChangeDates_ok {t0 r} (h:ref15_ChangeDates t0=some r):Den Tryz.prog 32 [e_GLaw t0] (e_s_i64 r):=by
 refine dk 72 k32 ?_
 simp only [k32,Kf.of,zs,ze]
 unfold ref15_ChangeDates at h
 exact pg (And.intro @ref15_ChangeDates_L18.eq_1 (And.intro @ref15_ChangeDates_L17.eq_1 (And.intro @ref15_ChangeDates_L19.eq_1 @ref15_ChangeDates_L8.eq_1))) (.l 2 1 (fun (q:((List GDateRange) × Int))=>⟨[.k 1,.p 1,.k 1,.s (.own 1 0),.s (e_i64 q.2),.p 68],[.o 0,.n 2 ((q.1.map e_GDateRange))]⟩) (fun (b15:(List GDateRange))=>⟨[.k 1,.p 1,.k 1,.s (.own 1 0)],[.o 0,.n 2 ((b15.map e_GDateRange))]⟩) [ok 0,on 2] (.b (.l 2 1 (fun (q:((List GDateRange) × Int))=>⟨[.k 1,.p 4,.s (e_i64 q.2),.p 2],[.o 0,.c 1 ((q.1.map e_GDateRange))]⟩) (fun (b12:(List GDateRange))=>⟨[.k 1,.p 4],[.o 0,.c 1 ((b12.map e_GDateRange))]⟩) [ok 0,ok 1] (.b (.t [ok 0,ov 1 1]) (.t [ok 0,ok 1])) (.t [ok 0,ok 1])) (.t [ok 0,ok 1])) (.l 2 1 (fun (q:((List GDateRange) × Int))=>⟨[.k 1,.p 5,.s (e_i64 q.2),.p 66],[.o 0,.c 1 ((q.1.map e_GDateRange))]⟩) (fun (b30:(List GDateRange))=>⟨[.k 3,.p 3],[.c 1 ((b30.map e_GDateRange))]⟩) [ok 0,ok 1] (.b (.l 2 1 (fun (q:((List GDateRange) × Int))=>⟨[.k 1,.p 6,.s (e_i64 q.2),.p 31],[.o 0,.c 1 ((q.1.map e_GDateRange))]⟩) (fun (b27:(List GDateRange))=>⟨[.k 1,.p 6],[.o 0,.c 1 ((b27.map e_GDateRange))]⟩) [ok 0,ok 1] (.b (.t [ok 0,ov 1 1]) (.t [ok 0,ok 1])) (.t [ok 0,ok 1])) (.t [ok 1])) (.z 1 (.d [] [] .o))))
instance {t0 r}:Con (ref15_ChangeDates t0=some r) (Den Tryz.prog 32 [e_GLaw t0] (e_s_i64 r)):=⟨ref15_ChangeDates_ok⟩
theorem ref07_Range_ok {t0 r} (h:ref07_Range t0=some r):Den Tryz.prog 34 [e_i64 t0] (.tup [e_GDateRange r.1,e_i64 r.2]):=by
 refine dk 25 k34 ?_
 simp only [k34,Kf.of,zs,ze]
 unfold ref07_Range at h
 exact pg trivial .o
instance {t0 r}:Con (ref07_Range t0=some r) (Den Tryz.prog 34 [e_i64 t0] (.tup [e_GDateRange r.1,e_i64 r.2])):=⟨ref07_Range_ok⟩
theorem facts_ChangeDates_ok {t0 t1 r} (h:facts_ChangeDates t0 t1=some r):Den Tryz.prog 47 [e_s_GFact t0,e_i64 t1] (e_s_i64 r):=by
 refine dk 49 k47 ?_
 simp only [k47,Kf.of,zs,ze]
 unfold facts_ChangeDates at h
 exact pg (And.intro @facts_ChangeDates_L2.eq_1 @facts_ChangeDates_L3.eq_1) (.l 2 1 (fun (q:((List GDateRange) × Int))=>⟨[.k 1,.p 3,.k 1,.s (.own 0 0),.p 7,.s (e_i64 q.2),.p 37],[.n 2 ((q.1.map e_GDateRange))]⟩) (fun (b13:(List GDateRange))=>⟨[.k 5,.s (.own 0 0),.p 5],[.n 2 ((b13.map e_GDateRange))]⟩) [on 2] (.b (.j 1 (fun (j10:(List GDateRange))=>⟨[.k 1,.p 13],[.c 0 ((j10.map e_GDateRange))]⟩) (.z 1 (.j 1 (fun (j7:Bool)=>⟨[.k 1,.p 13,.k 11,.s (e_bool j7),.p 25],[.o 0,.o 1]⟩) (.b (.t [ok 0,ok 1]) (.t [ok 0,ok 1])) (.b (.t [ov 0 1]) (.t [ok 0])))) (.t [ok 0])) (.t [ok 0])) (.z 3 (.d [] [] (.l 2 1 (fun (q:((List Int) × Int))=>⟨[.k 8,.s (.own 0 0),.p 23,.k 1,.p 2,.s (e_i64 q.2),.p 15],[.n 1 ((q.1.map e_i64))]⟩) (fun (b26:(List Int))=>⟨[.k 8,.s (.own 0 0),.p 23],[.n 1 ((b26.map e_i64))]⟩) [on 1] (.b (.j 1 (fun (j23:(List Int))=>⟨[.k 8,.p 28],[.c 0 ((j23.map e_i64))]⟩) (.z 1 (.j 1 (fun (j20:Bool)=>⟨[.k 8,.p 28,.k 8,.s (e_bool j20),.p 6],[.o 0]⟩) (.b (.t [ok 0]) (.t [ok 0])) (.b (.t [ov 0 1]) (.t [ok 0])))) (.t [ok 0])) (.t [ok 0])) .o))))
instance {t0 t1 r}:Con (facts_ChangeDates t0 t1=some r) (Den Tryz.prog 47 [e_s_GFact t0,e_i64 t1] (e_s_i64 r)):=⟨facts_ChangeDates_ok⟩
theorem ref36_Pieces_ok {t0 t1 t2 t3 r} (h:ref36_Pieces t0 t1 t2 t3=some r):Den Tryz.prog 17 [e_GLaw t0,e_GHousehold t1,e_i64 t2,e_i64 t3] (e_s_GDateRange r):=by
 refine dk 22 k17 ?_
 simp only [k17,Kf.of,zs,ze]
 unfold ref36_Pieces at h
 exact pg trivial .o
instance {t0 t1 t2 t3 r}:Con (ref36_Pieces t0 t1 t2 t3=some r) (Den Tryz.prog 17 [e_GLaw t0,e_GHousehold t1,e_i64 t2,e_i64 t3] (e_s_GDateRange r)):=⟨ref36_Pieces_ok⟩
theorem award_changeDates_ok {t0 t1 t2 r} (h:award_changeDates t0 t1 t2=some r):Den Tryz.prog 28 [e_GLaw t0,e_GHousehold t1,e_i64 t2] (e_s_i64 r):=by
 refine dk 17 k28 ?_
 simp only [k28,Kf.of,zs,ze]
 unfold award_changeDates at h
 exact pg (And.intro @award_changeDates_I5.eq_1 (And.intro @award_changeDates_L6.eq_1 (And.intro @award_changeDates_I4.eq_1 (And.intro @award_changeDates_L7.eq_1 (And.intro @k84.eq_1 @k46.eq_1))))) (.i k46 1 35 (fun (i26:(List Int))=>⟨[.s (.own 3 0)],[.O 0,.O 1,.O 2,.n 1 ((i26.map e_i64))]⟩) (.l 2 1 (fun (q:(Int × Int))=>⟨[.p 2,.k 1,.s (e_i64 q.1),.p 7,.s (e_i64 q.2),.p 24],[.O 0,.O 1,.O 2]⟩) (fun (b11:Int)=>⟨[.p 2,.k 1,.s (e_i64 b11),.p 5],[.O 0,.O 1,.O 2]⟩) [ok 0,ok 1,ok 2] (.b (.b .o (.t [ok 0,ok 1,ok 2])) (.t [ok 0,ok 1,ok 2])) (.i k84 1 25 (fun (i17:(List Int))=>⟨[.s (.own 3 0)],[.O 0,.O 1,.O 2,.n 1 ((i17.map e_i64))]⟩) (.b .o (.j 1 (fun (j16:(List Int))=>⟨[.s (.own 3 0)],[.O 0,.O 1,.O 2,.n 1 ((j16.map e_i64))]⟩) (.b (.t [ok 0,ok 1,ok 2,ov 3 1]) (.t [ok 0,ok 1,ok 2,on 1])) (.t [ok 0,ok 1,ok 2,ok 3]))) (.l 2 1 (fun (q:((List Int) × Int))=>⟨[.k 6,.p 17,.k 2,.p 2,.s (e_i64 q.2),.p 8],[.O 0,.O 1,.O 2,.c 3 ((q.1.map e_i64))]⟩) (fun (b25:(List Int))=>⟨[.k 6,.p 17],[.O 0,.O 1,.O 2,.c 3 ((b25.map e_i64))]⟩) [ok 0,ok 1,ok 2,ok 3] (.b (.t [ok 0,ok 1,ok 2,ov 3 1]) (.t [ok 0,ok 1,ok 2,ok 3])) (.t [ok 0,ok 1,ok 2,ok 3])))) .o)
instance {t0 t1 t2 r}:Con (award_changeDates t0 t1 t2=some r) (Den Tryz.prog 28 [e_GLaw t0,e_GHousehold t1,e_i64 t2] (e_s_i64 r)):=⟨award_changeDates_ok⟩
theorem award_Pieces_ok {t0 t1 t2 t3 r} (h:award_Pieces t0 t1 t2 t3=some r):Den Tryz.prog 16 [e_GLaw t0,e_GHousehold t1,e_i64 t2,e_i64 t3] (e_s_GDateRange r):=by
 refine dk 20 k16 ?_
 simp only [k16,Kf.of,zs,ze]
 unfold award_Pieces at h
 exact pg trivial .o
instance {t0 t1 t2 t3 r}:Con (award_Pieces t0 t1 t2 t3=some r) (Den Tryz.prog 16 [e_GLaw t0,e_GHousehold t1,e_i64 t2,e_i64 t3] (e_s_GDateRange r)):=⟨award_Pieces_ok⟩
theorem law36_AwardPieces_ok {t0 t1 t2 t3 r} (h:law36_AwardPieces t0 t1 t2 t3=some r):Den Tryz.prog 5 [e_GLaw t0,e_GHousehold t1,e_i64 t2,e_i64 t3] (e_bool r):=by
 refine dk 28 k5 ?_
 simp only [k5,Kf.of,zs,ze]
 unfold law36_AwardPieces at h
 exact pg trivial (.z 2 (.j 1 (fun (j4:Bool)=>⟨[.k 2,.p 6,.k 8,.s (e_bool j4),.p 15],[.o 0,.o 1]⟩) (.b (.t [ok 0,ok 1]) (.t [ok 0,ok 1])) (.b .o (.j 1 (fun (j12:Bool)=>⟨[.k 8,.s (e_bool j12),.p 7],[]⟩) (.b (.t []) (.t [])) .o))))
instance {t0 t1 t2 t3 r}:Con (law36_AwardPieces t0 t1 t2 t3=some r) (Den Tryz.prog 5 [e_GLaw t0,e_GHousehold t1,e_i64 t2,e_i64 t3] (e_bool r)):=⟨law36_AwardPieces_ok⟩
end Go.Proofs.Dev
