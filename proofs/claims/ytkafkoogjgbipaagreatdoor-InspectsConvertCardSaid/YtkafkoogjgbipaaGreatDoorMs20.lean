/-
  A part of the proof of the laws.
-/
import Derived.Test.YtkafkoogjgbipaaGreatDoorMd20
import Derived.Test.YtkafkoogjgbipaaGreatDoorMr20x0
import Derived.Test.YtkafkoogjgbipaaGreatDoorMr20x1
import Derived.Test.YtkafkoogjgbipaaGreatDoorMr20x2
import Derived.Test.YtkafkoogjgbipaaGreatDoorMr20x3
import Derived.Test.YtkafkoogjgbipaaGreatDoorMr20x4
import Derived.Test.YtkafkoogjgbipaaGreatDoorMr20x5
import Derived.Test.YtkafkoogjgbipaaGreatDoorMr20x6
section
set_option maxRecDepth 100000
namespace Go.Proofs.C06
open Go Go.RowKit Go.Vc Go.Am
theorem libs20_sound : ∀ C ∈ libs20, SoundC Tryz.prog GP4 C := by
  unfold libs20
  refine List.forall_mem_cons.2 ⟨wOf_sound, ?_⟩
  refine List.forall_mem_cons.2 ⟨(up34 (up3 (lTrimPrefix_sound 4000))), ?_⟩
  refine List.forall_mem_cons.2 ⟨(up34 (up3 (lCut_sound 4000))), ?_⟩
  refine List.forall_mem_cons.2 ⟨(up34 (up3 (lRepeat_sound 4000))), ?_⟩
  refine List.forall_mem_cons.2 ⟨bIndexByte_sound, ?_⟩
  refine List.forall_mem_cons.2 ⟨(up34 (up3 (bRep_sound 4000))), ?_⟩
  refine List.forall_mem_cons.2 ⟨(up34 (up3 (bRep_give_sound 4000))), ?_⟩
  refine List.forall_mem_cons.2 ⟨bGrow0_sound, ?_⟩
  refine List.forall_mem_cons.2 ⟨(up34 (up3 (lTrimSuffix_sound 4000))), ?_⟩
  refine List.forall_mem_cons.2 ⟨(up34 (up3 (lCutPrefix_sound 4000))), ?_⟩
  refine List.forall_mem_cons.2 ⟨(up34 (up3 (lFormatInt_sound 4000))), ?_⟩
  refine List.forall_mem_cons.2 ⟨bIndex_sound, ?_⟩
  refine List.forall_mem_cons.2 ⟨(up34 (up3 (lTrimLeft_sound 4000))), ?_⟩
  refine List.forall_mem_cons.2 ⟨(up34 (up3 (lHasSuffix_sound 4000))), ?_⟩
  refine List.forall_mem_cons.2 ⟨(up34 (up3 (lItoa_sound 4000))), ?_⟩
  refine List.forall_mem_cons.2 ⟨(up34 (up3 (lTrim_sound 4000))), ?_⟩
  refine List.forall_mem_cons.2 ⟨(up34 (up3 (lCount_sound 4000))), ?_⟩
  refine List.forall_mem_cons.2 ⟨(up34 (up3 (lTrimRight_sound 4000))), ?_⟩
  refine List.forall_mem_cons.2 ⟨(up34 (up3 (lHasPrefix_sound 4000))), ?_⟩
  refine List.forall_mem_cons.2 ⟨(up34 (up3 (lContains_sound 4000))), ?_⟩
  refine List.forall_mem_cons.2 ⟨(up34 (up3 (bStr_sound 4000))), ?_⟩
  refine List.forall_mem_cons.2 ⟨(up34 (up3 (bStr0_sound 4000))), ?_⟩
  refine List.forall_mem_cons.2 ⟨(up34 (up3 (lContainsAny_sound 4000))), ?_⟩
  refine List.forall_mem_cons.2 ⟨(up34 (up3 (lCutSuffix_sound 4000))), ?_⟩
  refine List.forall_mem_cons.2 ⟨(up34 (up3 (lRuneLen_sound 4000))), ?_⟩
  refine List.forall_mem_cons.2 ⟨(up34 (up3 (lIndexByte_sound 4000))), ?_⟩
  refine List.forall_mem_cons.2 ⟨(up34 (up3 (ccUsed_sound 4000))), ?_⟩
  refine List.forall_mem_cons.2 ⟨(up34 (up3 (ccFresh_sound 4000))), ?_⟩
  refine List.forall_mem_cons.2 ⟨(up34 (up3 (lAtoi_sound 4000))), ?_⟩
  refine List.forall_mem_cons.2 ⟨(up34 (up3 (lContainsRune_sound 4000))), ?_⟩
  refine List.forall_mem_cons.2 ⟨(up34 (up3 (bGrow_sound 4000))), ?_⟩
  exact fun _ h => by cases h
end Go.Proofs.C06
end
section
set_option maxRecDepth 100000
set_option maxHeartbeats 4000000
namespace Go.Proofs.C06
open Go Go.RowKit Go.Vc Go.Am
theorem S20 {ms : List Mm} (hms : ∀ m ∈ ms, SoundC Tryz.prog GP4 m.con) (m : Mm) {h : ms.all (Mm.good qa20) = true} (hr : f20 ms h m = some m.o) : SoundC Tryz.prog GP4 m.con := Mm.sound bas4f (RowN.sound libs20_sound) hms m 30 hr
theorem ml20 {m : Mm} {ms : List Mm} (h : SoundC Tryz.prog GP4 m.con) (hs : ∀ m ∈ ms, SoundC Tryz.prog GP4 m.con) : ∀ k ∈ m :: ms, SoundC Tryz.prog GP4 k.con := List.forall_mem_cons.2 ⟨h, hs⟩
theorem mn20 : ∀ k ∈ ([] : List Mm), SoundC Tryz.prog GP4 k.con := fun _ h => by cases h
theorem sm20_0 : SoundC Tryz.prog GP4 mm20_0.con := S20 mn20 _ rr20_0
theorem sm20_1 : SoundC Tryz.prog GP4 mm20_1.con := S20 mn20 _ rr20_1
theorem sm20_2 : SoundC Tryz.prog GP4 mm20_2.con := S20 mn20 _ rr20_2
theorem sm20_3 : SoundC Tryz.prog GP4 mm20_3.con := S20 (ml20 sm20_2 mn20) _ rr20_3
theorem sm20_4 : SoundC Tryz.prog GP4 mm20_4.con := S20 mn20 _ rr20_4
theorem sm20_5 : SoundC Tryz.prog GP4 mm20_5.con := S20 mn20 _ rr20_5
theorem sm20_6 : SoundC Tryz.prog GP4 mm20_6.con := S20 mn20 _ rr20_6
theorem sm20_7 : SoundC Tryz.prog GP4 mm20_7.con := S20 mn20 _ rr20_7
theorem sm20_8 : SoundC Tryz.prog GP4 mm20_8.con := S20 mn20 _ rr20_8
theorem sm20_9 : SoundC Tryz.prog GP4 mm20_9.con := S20 mn20 _ rr20_9
theorem sm20_10 : SoundC Tryz.prog GP4 mm20_10.con := S20 mn20 _ rr20_10
theorem sm20_11 : SoundC Tryz.prog GP4 mm20_11.con := S20 mn20 _ rr20_11
theorem sm20_12 : SoundC Tryz.prog GP4 mm20_12.con := S20 (ml20 sm20_1 (ml20 sm20_3 (ml20 sm20_4 (ml20 sm20_5 (ml20 sm20_6 (ml20 sm20_7 (ml20 sm20_8 (ml20 sm20_9 (ml20 sm20_10 (ml20 sm20_11 mn20)))))))))) _ rr20_12
theorem sm20_13 : SoundC Tryz.prog GP4 mm20_13.con := S20 mn20 _ rr20_13
theorem sm20_14 : SoundC Tryz.prog GP4 mm20_14.con := S20 mn20 _ rr20_14
theorem sm20_15 : SoundC Tryz.prog GP4 mm20_15.con := S20 mn20 _ rr20_15
theorem sm20_16 : SoundC Tryz.prog GP4 mm20_16.con := S20 (ml20 sm20_14 (ml20 sm20_15 mn20)) _ rr20_16
theorem sm20_17 : SoundC Tryz.prog GP4 mm20_17.con := S20 mn20 _ rr20_17
theorem sm20_18 : SoundC Tryz.prog GP4 mm20_18.con := S20 (ml20 sm20_15 mn20) _ rr20_18
theorem sm20_19 : SoundC Tryz.prog GP4 mm20_19.con := S20 (ml20 sm20_15 (ml20 sm20_18 mn20)) _ rr20_19
theorem sm20_20 : SoundC Tryz.prog GP4 mm20_20.con := S20 (ml20 sm20_15 (ml20 sm20_17 (ml20 sm20_19 mn20))) _ rr20_20
theorem sm20_21 : SoundC Tryz.prog GP4 mm20_21.con := S20 (ml20 sm20_16 (ml20 sm20_20 mn20)) _ rr20_21
theorem sm20_22 : SoundC Tryz.prog GP4 mm20_22.con := S20 (ml20 sm20_0 (ml20 sm20_12 (ml20 sm20_13 (ml20 sm20_21 mn20)))) _ rr20_22
theorem sm20_23 : SoundC Tryz.prog GP4 mm20_23.con := S20 mn20 _ rr20_23
theorem sm20_24 : SoundC Tryz.prog GP4 mm20_24.con := S20 mn20 _ rr20_24
theorem sm20_25 : SoundC Tryz.prog GP4 mm20_25.con := S20 mn20 _ rr20_25
theorem sm20_26 : SoundC Tryz.prog GP4 mm20_26.con := S20 (ml20 sm20_25 mn20) _ rr20_26
theorem sm20_27 : SoundC Tryz.prog GP4 mm20_27.con := S20 mn20 _ rr20_27
theorem sm20_28 : SoundC Tryz.prog GP4 mm20_28.con := S20 mn20 _ rr20_28
theorem sm20_29 : SoundC Tryz.prog GP4 mm20_29.con := S20 mn20 _ rr20_29
theorem sm20_30 : SoundC Tryz.prog GP4 mm20_30.con := S20 (ml20 sm20_29 mn20) _ rr20_30
theorem sm20_31 : SoundC Tryz.prog GP4 mm20_31.con := S20 mn20 _ rr20_31
theorem sm20_32 : SoundC Tryz.prog GP4 mm20_32.con := S20 (ml20 sm20_31 mn20) _ rr20_32
theorem sm20_33 : SoundC Tryz.prog GP4 mm20_33.con := S20 mn20 _ rr20_33
theorem sm20_34 : SoundC Tryz.prog GP4 mm20_34.con := S20 mn20 _ rr20_34
theorem sm20_35 : SoundC Tryz.prog GP4 mm20_35.con := S20 mn20 _ rr20_35
theorem sm20_36 : SoundC Tryz.prog GP4 mm20_36.con := S20 mn20 _ rr20_36
theorem sm20_37 : SoundC Tryz.prog GP4 mm20_37.con := S20 mn20 _ rr20_37
theorem sm20_38 : SoundC Tryz.prog GP4 mm20_38.con := S20 mn20 _ rr20_38
theorem sm20_39 : SoundC Tryz.prog GP4 mm20_39.con := S20 mn20 _ rr20_39
theorem sm20_40 : SoundC Tryz.prog GP4 mm20_40.con := S20 (ml20 sm20_24 (ml20 sm20_26 (ml20 sm20_27 (ml20 sm20_28 (ml20 sm20_30 (ml20 sm20_32 (ml20 sm20_33 (ml20 sm20_34 (ml20 sm20_35 (ml20 sm20_36 (ml20 sm20_37 (ml20 sm20_38 (ml20 sm20_39 mn20))))))))))))) _ rr20_40
theorem sm20_41 : SoundC Tryz.prog GP4 mm20_41.con := S20 mn20 _ rr20_41
theorem sm20_42 : SoundC Tryz.prog GP4 mm20_42.con := S20 mn20 _ rr20_42
theorem sm20_43 : SoundC Tryz.prog GP4 mm20_43.con := S20 (ml20 sm20_15 (ml20 sm20_42 mn20)) _ rr20_43
theorem sm20_44 : SoundC Tryz.prog GP4 mm20_44.con := S20 mn20 _ rr20_44
theorem sm20_45 : SoundC Tryz.prog GP4 mm20_45.con := S20 (ml20 sm20_15 mn20) _ rr20_45
theorem sm20_46 : SoundC Tryz.prog GP4 mm20_46.con := S20 (ml20 sm20_15 (ml20 sm20_45 mn20)) _ rr20_46
theorem sm20_47 : SoundC Tryz.prog GP4 mm20_47.con := S20 (ml20 sm20_15 (ml20 sm20_44 (ml20 sm20_46 mn20))) _ rr20_47
theorem sm20_48 : SoundC Tryz.prog GP4 mm20_48.con := S20 (ml20 sm20_43 (ml20 sm20_47 mn20)) _ rr20_48
theorem sm20_49 : SoundC Tryz.prog GP4 mm20_49.con := S20 (ml20 sm20_23 (ml20 sm20_40 (ml20 sm20_41 (ml20 sm20_48 mn20)))) _ rr20_49
theorem sm20_50 : SoundC Tryz.prog GP4 mm20_50.con := S20 mn20 _ rr20_50
theorem sm20_51 : SoundC Tryz.prog GP4 mm20_51.con := S20 mn20 _ rr20_51
theorem sm20_52 : SoundC Tryz.prog GP4 mm20_52.con := S20 mn20 _ rr20_52
theorem sm20_53 : SoundC Tryz.prog GP4 mm20_53.con := S20 (ml20 sm20_52 mn20) _ rr20_53
theorem sm20_54 : SoundC Tryz.prog GP4 mm20_54.con := S20 mn20 _ rr20_54
theorem sm20_55 : SoundC Tryz.prog GP4 mm20_55.con := S20 mn20 _ rr20_55
theorem sm20_56 : SoundC Tryz.prog GP4 mm20_56.con := S20 mn20 _ rr20_56
theorem sm20_57 : SoundC Tryz.prog GP4 mm20_57.con := S20 mn20 _ rr20_57
theorem sm20_58 : SoundC Tryz.prog GP4 mm20_58.con := S20 (ml20 sm20_56 mn20) _ rr20_58
theorem sm20_59 : SoundC Tryz.prog GP4 mm20_59.con := S20 mn20 _ rr20_59
theorem sm20_60 : SoundC Tryz.prog GP4 mm20_60.con := S20 mn20 _ rr20_60
theorem sm20_61 : SoundC Tryz.prog GP4 mm20_61.con := S20 mn20 _ rr20_61
theorem sm20_62 : SoundC Tryz.prog GP4 mm20_62.con := S20 mn20 _ rr20_62
theorem sm20_63 : SoundC Tryz.prog GP4 mm20_63.con := S20 mn20 _ rr20_63
theorem sm20_64 : SoundC Tryz.prog GP4 mm20_64.con := S20 mn20 _ rr20_64
theorem sm20_65 : SoundC Tryz.prog GP4 mm20_65.con := S20 mn20 _ rr20_65
theorem sm20_66 : SoundC Tryz.prog GP4 mm20_66.con := S20 mn20 _ rr20_66
theorem sm20_67 : SoundC Tryz.prog GP4 mm20_67.con := S20 mn20 _ rr20_67
theorem sm20_68 : SoundC Tryz.prog GP4 mm20_68.con := S20 mn20 _ rr20_68
theorem sm20_69 : SoundC Tryz.prog GP4 mm20_69.con := S20 mn20 _ rr20_69
theorem sm20_70 : SoundC Tryz.prog GP4 mm20_70.con := S20 mn20 _ rr20_70
theorem sm20_71 : SoundC Tryz.prog GP4 mm20_71.con := S20 mn20 _ rr20_71
theorem sm20_72 : SoundC Tryz.prog GP4 mm20_72.con := S20 mn20 _ rr20_72
theorem sm20_73 : SoundC Tryz.prog GP4 mm20_73.con := S20 mn20 _ rr20_73
theorem sm20_74 : SoundC Tryz.prog GP4 mm20_74.con := S20 mn20 _ rr20_74
theorem sm20_75 : SoundC Tryz.prog GP4 mm20_75.con := S20 (ml20 sm20_51 (ml20 sm20_53 (ml20 sm20_54 (ml20 sm20_55 (ml20 sm20_57 (ml20 sm20_58 (ml20 sm20_59 (ml20 sm20_60 (ml20 sm20_61 (ml20 sm20_62 (ml20 sm20_63 (ml20 sm20_64 (ml20 sm20_65 (ml20 sm20_66 (ml20 sm20_67 (ml20 sm20_68 (ml20 sm20_69 (ml20 sm20_70 (ml20 sm20_71 (ml20 sm20_72 (ml20 sm20_73 (ml20 sm20_74 mn20)))))))))))))))))))))) _ rr20_75
theorem sm20_76 : SoundC Tryz.prog GP4 mm20_76.con := S20 mn20 _ rr20_76
theorem sm20_77 : SoundC Tryz.prog GP4 mm20_77.con := S20 mn20 _ rr20_77
theorem sm20_78 : SoundC Tryz.prog GP4 mm20_78.con := S20 (ml20 sm20_76 (ml20 sm20_77 mn20)) _ rr20_78
theorem sm20_79 : SoundC Tryz.prog GP4 mm20_79.con := S20 mn20 _ rr20_79
theorem sm20_80 : SoundC Tryz.prog GP4 mm20_80.con := S20 (ml20 sm20_79 mn20) _ rr20_80
theorem sm20_81 : SoundC Tryz.prog GP4 mm20_81.con := S20 mn20 _ rr20_81
theorem sm20_82 : SoundC Tryz.prog GP4 mm20_82.con := S20 (ml20 sm20_80 (ml20 sm20_81 mn20)) _ rr20_82
theorem sm20_83 : SoundC Tryz.prog GP4 mm20_83.con := S20 (ml20 sm20_50 (ml20 sm20_75 (ml20 sm20_78 (ml20 sm20_82 mn20)))) _ rr20_83
theorem sm20_84 : SoundC Tryz.prog GP4 mm20_84.con := S20 mn20 _ rr20_84
theorem sm20_85 : SoundC Tryz.prog GP4 mm20_85.con := S20 mn20 _ rr20_85
theorem sm20_86 : SoundC Tryz.prog GP4 mm20_86.con := S20 mn20 _ rr20_86
theorem sm20_87 : SoundC Tryz.prog GP4 mm20_87.con := S20 (ml20 sm20_86 mn20) _ rr20_87
theorem sm20_88 : SoundC Tryz.prog GP4 mm20_88.con := S20 mn20 _ rr20_88
theorem sm20_89 : SoundC Tryz.prog GP4 mm20_89.con := S20 (ml20 sm20_88 mn20) _ rr20_89
theorem sm20_90 : SoundC Tryz.prog GP4 mm20_90.con := S20 mn20 _ rr20_90
theorem sm20_91 : SoundC Tryz.prog GP4 mm20_91.con := S20 mn20 _ rr20_91
theorem sm20_92 : SoundC Tryz.prog GP4 mm20_92.con := S20 mn20 _ rr20_92
theorem sm20_93 : SoundC Tryz.prog GP4 mm20_93.con := S20 (ml20 sm20_92 mn20) _ rr20_93
theorem sm20_94 : SoundC Tryz.prog GP4 mm20_94.con := S20 (ml20 sm20_91 mn20) _ rr20_94
theorem sm20_95 : SoundC Tryz.prog GP4 mm20_95.con := S20 mn20 _ rr20_95
theorem sm20_96 : SoundC Tryz.prog GP4 mm20_96.con := S20 mn20 _ rr20_96
theorem sm20_97 : SoundC Tryz.prog GP4 mm20_97.con := S20 mn20 _ rr20_97
theorem sm20_98 : SoundC Tryz.prog GP4 mm20_98.con := S20 mn20 _ rr20_98
theorem sm20_99 : SoundC Tryz.prog GP4 mm20_99.con := S20 mn20 _ rr20_99
theorem sm20_100 : SoundC Tryz.prog GP4 mm20_100.con := S20 mn20 _ rr20_100
theorem sm20_101 : SoundC Tryz.prog GP4 mm20_101.con := S20 mn20 _ rr20_101
theorem sm20_102 : SoundC Tryz.prog GP4 mm20_102.con := S20 mn20 _ rr20_102
theorem sm20_103 : SoundC Tryz.prog GP4 mm20_103.con := S20 mn20 _ rr20_103
theorem sm20_104 : SoundC Tryz.prog GP4 mm20_104.con := S20 mn20 _ rr20_104
theorem sm20_105 : SoundC Tryz.prog GP4 mm20_105.con := S20 (ml20 sm20_85 (ml20 sm20_87 (ml20 sm20_89 (ml20 sm20_90 (ml20 sm20_93 (ml20 sm20_94 (ml20 sm20_95 (ml20 sm20_96 (ml20 sm20_97 (ml20 sm20_98 (ml20 sm20_99 (ml20 sm20_100 (ml20 sm20_101 (ml20 sm20_102 (ml20 sm20_103 (ml20 sm20_104 mn20)))))))))))))))) _ rr20_105
theorem sm20_106 : SoundC Tryz.prog GP4 mm20_106.con := S20 mn20 _ rr20_106
theorem sm20_107 : SoundC Tryz.prog GP4 mm20_107.con := S20 (ml20 sm20_106 mn20) _ rr20_107
theorem sm20_108 : SoundC Tryz.prog GP4 mm20_108.con := S20 (ml20 sm20_79 mn20) _ rr20_108
theorem sm20_109 : SoundC Tryz.prog GP4 mm20_109.con := S20 mn20 _ rr20_109
theorem sm20_110 : SoundC Tryz.prog GP4 mm20_110.con := S20 (ml20 sm20_108 (ml20 sm20_109 mn20)) _ rr20_110
theorem sm20_111 : SoundC Tryz.prog GP4 mm20_111.con := S20 (ml20 sm20_84 (ml20 sm20_105 (ml20 sm20_107 (ml20 sm20_110 mn20)))) _ rr20_111
theorem sm20_112 : SoundC Tryz.prog GP4 mm20_112.con := S20 mn20 _ rr20_112
theorem sm20_113 : SoundC Tryz.prog GP4 mm20_113.con := S20 mn20 _ rr20_113
theorem sm20_114 : SoundC Tryz.prog GP4 mm20_114.con := S20 mn20 _ rr20_114
theorem sm20_115 : SoundC Tryz.prog GP4 mm20_115.con := S20 (ml20 sm20_114 mn20) _ rr20_115
theorem sm20_116 : SoundC Tryz.prog GP4 mm20_116.con := S20 mn20 _ rr20_116
theorem sm20_117 : SoundC Tryz.prog GP4 mm20_117.con := S20 (ml20 sm20_116 mn20) _ rr20_117
theorem sm20_118 : SoundC Tryz.prog GP4 mm20_118.con := S20 mn20 _ rr20_118
theorem sm20_119 : SoundC Tryz.prog GP4 mm20_119.con := S20 mn20 _ rr20_119
theorem sm20_120 : SoundC Tryz.prog GP4 mm20_120.con := S20 (ml20 sm20_119 mn20) _ rr20_120
theorem sm20_121 : SoundC Tryz.prog GP4 mm20_121.con := S20 mn20 _ rr20_121
theorem sm20_122 : SoundC Tryz.prog GP4 mm20_122.con := S20 (ml20 sm20_121 mn20) _ rr20_122
theorem sm20_123 : SoundC Tryz.prog GP4 mm20_123.con := S20 mn20 _ rr20_123
theorem sm20_124 : SoundC Tryz.prog GP4 mm20_124.con := S20 mn20 _ rr20_124
theorem sm20_125 : SoundC Tryz.prog GP4 mm20_125.con := S20 mn20 _ rr20_125
theorem sm20_126 : SoundC Tryz.prog GP4 mm20_126.con := S20 mn20 _ rr20_126
theorem sm20_127 : SoundC Tryz.prog GP4 mm20_127.con := S20 mn20 _ rr20_127
theorem sm20_128 : SoundC Tryz.prog GP4 mm20_128.con := S20 mn20 _ rr20_128
theorem sm20_129 : SoundC Tryz.prog GP4 mm20_129.con := S20 mn20 _ rr20_129
theorem sm20_130 : SoundC Tryz.prog GP4 mm20_130.con := S20 mn20 _ rr20_130
theorem sm20_131 : SoundC Tryz.prog GP4 mm20_131.con := S20 mn20 _ rr20_131
theorem sm20_132 : SoundC Tryz.prog GP4 mm20_132.con := S20 mn20 _ rr20_132
theorem sm20_133 : SoundC Tryz.prog GP4 mm20_133.con := S20 (ml20 sm20_113 (ml20 sm20_115 (ml20 sm20_117 (ml20 sm20_118 (ml20 sm20_120 (ml20 sm20_122 (ml20 sm20_123 (ml20 sm20_124 (ml20 sm20_125 (ml20 sm20_126 (ml20 sm20_127 (ml20 sm20_128 (ml20 sm20_129 (ml20 sm20_130 (ml20 sm20_131 (ml20 sm20_132 mn20)))))))))))))))) _ rr20_133
theorem sm20_134 : SoundC Tryz.prog GP4 mm20_134.con := S20 mn20 _ rr20_134
theorem sm20_135 : SoundC Tryz.prog GP4 mm20_135.con := S20 (ml20 sm20_134 mn20) _ rr20_135
theorem sm20_136 : SoundC Tryz.prog GP4 mm20_136.con := S20 (ml20 sm20_79 mn20) _ rr20_136
theorem sm20_137 : SoundC Tryz.prog GP4 mm20_137.con := S20 mn20 _ rr20_137
theorem sm20_138 : SoundC Tryz.prog GP4 mm20_138.con := S20 (ml20 sm20_136 (ml20 sm20_137 mn20)) _ rr20_138
theorem sm20_139 : SoundC Tryz.prog GP4 mm20_139.con := S20 (ml20 sm20_112 (ml20 sm20_133 (ml20 sm20_135 (ml20 sm20_138 mn20)))) _ rr20_139
theorem sm20_140 : SoundC Tryz.prog GP4 mm20_140.con := S20 mn20 _ rr20_140
theorem sm20_141 : SoundC Tryz.prog GP4 mm20_141.con := S20 mn20 _ rr20_141
theorem sm20_142 : SoundC Tryz.prog GP4 mm20_142.con := S20 mn20 _ rr20_142
theorem sm20_143 : SoundC Tryz.prog GP4 mm20_143.con := S20 (ml20 sm20_142 mn20) _ rr20_143
theorem sm20_144 : SoundC Tryz.prog GP4 mm20_144.con := S20 mn20 _ rr20_144
theorem sm20_145 : SoundC Tryz.prog GP4 mm20_145.con := S20 mn20 _ rr20_145
theorem sm20_146 : SoundC Tryz.prog GP4 mm20_146.con := S20 mn20 _ rr20_146
theorem sm20_147 : SoundC Tryz.prog GP4 mm20_147.con := S20 mn20 _ rr20_147
theorem sm20_148 : SoundC Tryz.prog GP4 mm20_148.con := S20 mn20 _ rr20_148
theorem sm20_149 : SoundC Tryz.prog GP4 mm20_149.con := S20 mn20 _ rr20_149
theorem sm20_150 : SoundC Tryz.prog GP4 mm20_150.con := S20 (ml20 sm20_141 (ml20 sm20_143 (ml20 sm20_144 (ml20 sm20_145 (ml20 sm20_146 (ml20 sm20_147 (ml20 sm20_148 (ml20 sm20_149 mn20)))))))) _ rr20_150
theorem sm20_151 : SoundC Tryz.prog GP4 mm20_151.con := S20 mn20 _ rr20_151
theorem sm20_152 : SoundC Tryz.prog GP4 mm20_152.con := S20 mn20 _ rr20_152
theorem sm20_153 : SoundC Tryz.prog GP4 mm20_153.con := S20 (ml20 sm20_79 (ml20 sm20_152 mn20)) _ rr20_153
theorem sm20_154 : SoundC Tryz.prog GP4 mm20_154.con := S20 (ml20 sm20_140 (ml20 sm20_150 (ml20 sm20_151 (ml20 sm20_153 mn20)))) _ rr20_154
theorem sm20_155 : SoundC Tryz.prog GP4 mm20_155.con := S20 (ml20 sm20_22 (ml20 sm20_49 (ml20 sm20_83 (ml20 sm20_111 (ml20 sm20_139 (ml20 sm20_154 mn20)))))) _ rr20_155
end Go.Proofs.C06
end
section
namespace Go.Proofs.C06
open Go Go.RowKit Go.Vc Go.Am
/-- the examples of chapter 20 -/
def lives20_con (_ : Nat) : Con := mm20_155.con
theorem lives20_sound (N : Nat) : SoundC Tryz.prog GP4 (lives20_con N) := sm20_155
end Go.Proofs.C06
end
